/- Contracts: what stands in quotes, and places outside of quotes, exactly. -/
import Derived.Test.YtmokcpfbeggigaaGreatDoorScriptListCd0scriptZ
namespace Go.Proofs.YtmokcpfbeggigaaGreatDoor.Q
open Go Go.AM
set_option linter.unusedSimpArgs false
set_option linter.unusedVariables false
set_option linter.unusedSectionVars false
def qR:Bs->Option (Bs × Nat)
 | []=>none
 | [c]=>if c=34 then some ([],1) else none
 | c::d::l=>if c=34 then some ([],1) else if c=92 then (qR l).map fun r=>(d::r.1,r.2+2) else (qR (d::l)).map fun r=>(c::r.1,r.2+1)
theorem axA {s:Bs} {i:Nat} (h:s.length<=i):qR (s.drop i)=none:=by rw [List.drop_eq_nil_of_le h]; rfl
theorem auX {s:Bs} {i:Nat} (h:i<s.length) (h1:s[i]=34):qR (s.drop i)=some ([],1):=by
 rw [List.drop_eq_getElem_cons h,h1]
 cases s.drop (i+1) with
 | nil=>simp [qR]
 | cons d l=>simp [qR]
theorem awx {s:Bs} {i:Nat} (h:i<s.length) (h1:s[i] ≠ 34) (h2:i+1=s.length):qR (s.drop i)=none:=by
 rw [List.drop_eq_getElem_cons h,List.drop_eq_nil_of_le (by omega)]
 simp [qR,h1]
theorem awL {s:Bs} {i:Nat} (h:i+1<s.length) (h1:s[i]=92):qR (s.drop i)=(qR (s.drop (i+1+1))).map fun r=>(s[i+1]::r.1,r.2+2):=by
 rw [List.drop_eq_getElem_cons (by omega),List.drop_eq_getElem_cons h,h1]
 simp [qR]
theorem awd {s:Bs} {i:Nat} (h:i<s.length) (h1:s[i] ≠ 34) (h2:s[i] ≠ 92):qR (s.drop i)=(qR (s.drop (i+1))).map fun r=>(s[i]::r.1,r.2+1):=by
 rw [List.drop_eq_getElem_cons h]
 cases s.drop (i+1) with
 | nil=>simp [qR,h1]
 | cons d l=>simp [qR,h1,h2]
theorem alE:∀ {s:Bs} {t:Bs} {k:Nat},qR s=some (t,k)->1<=k/\k<=s.length/\t.length+1<=k
 | [],t,k,h=>by simp [qR] at h
 | [c],t,k,h=>by
   simp only [qR] at h
   split at h
   ·cases h; simp
   ·cases h
 | c::d::l,t,k,h=>by
   simp only [qR] at h
   split at h
   ·cases h; simp
   ·split at h
    ·obtain ⟨⟨t1,k1⟩,h1,h2⟩:=Option.map_eq_some_iff.1 h
     cases h2
     have:=alE h1
     simp only [List.length_cons]; omega
    ·obtain ⟨⟨t1,k1⟩,h1,h2⟩:=Option.map_eq_some_iff.1 h
     cases h2
     have:=alE h1
     simp only [List.length_cons] at this ⊢; omega
def qT:Option (Bs × Nat)->List V
 | some r=>[.str r.1,.int .i64 ((1+r.2:Nat):Int),.bool true]
 | none=>[.str [],.int .i64 0,.bool false]
def z8 (c:UInt8) (s:Bs) (i:Nat):Option Nat :=
 if h:i<s.length then
  if s[i]=34 then match qR (s.drop (i+1)) with | none=>none | some r=>z8 c s (i+1+r.2)
  else if s[i]=c then some i else z8 c s (i+1)
 else none
termination_by s.length-i
theorem aey {c:UInt8} {s:Bs} {i:Nat} (h:¬ i<s.length):z8 c s i=none:=by
 rw [z8,dif_neg h]
theorem alO {c:UInt8} {s:Bs} {i:Nat} (h:i<s.length) (h1:s[i]=34) (h2:qR (s.drop (i+1))=none):z8 c s i=none:=by
 rw [z8,dif_pos h,if_pos h1]; simp only [h2]
theorem aiN {c:UInt8} {s:Bs} {i:Nat} {r:Bs × Nat} (h:i<s.length) (h1:s[i]=34) (h2:qR (s.drop (i+1))=some r):z8 c s i=z8 c s (i+1+r.2):=by
 conv=>lhs; rw [z8,dif_pos h,if_pos h1]
 simp only [h2]
theorem aej {c:UInt8} {s:Bs} {i:Nat} (h:i<s.length) (h1:s[i] ≠ 34) (h2:s[i]=c):z8 c s i=some i:=by
 rw [z8,dif_pos h,if_neg h1,if_pos h2]
theorem afS {c:UInt8} {s:Bs} {i:Nat} (h:i<s.length) (h1:s[i] ≠ 34) (h2:s[i] ≠ c):z8 c s i=z8 c s (i+1):=by
 conv=>lhs; rw [z8,dif_pos h,if_neg h1,if_neg h2]
theorem acI {c:UInt8} {s:Bs} {i k:Nat} (h:z8 c s i=some k):i<=k/\k<s.length:=by
 rw [z8] at h
 split at h
 ·rename_i hi
  split at h
  ·split at h
   ·cases h
   ·have:=acI h; omega
  ·split at h
   ·cases h; omega
   ·have:=acI h; omega
 ·cases h
termination_by s.length-i
theorem ad0 (c:UInt8) (a s:Bs) (i:Nat):z8 c (a++s) (a.length+i)=(z8 c s i).map (·+a.length):=by
 by_cases h:i<s.length
 ·have h':a.length+i<(a++s).length:=by simp; omega
  have hg:(a++s)[a.length+i]=s[i]:=by rw [List.getElem_append_right (by omega)]; congr 1; omega
  have hd:(a++s).drop (a.length+i+1)=s.drop (i+1):=by rw [Nat.add_assoc,List.drop_append]; simp
  by_cases h1:s[i]=34
  ·cases hq:qR (s.drop (i+1)) with
   | none=>rw [alO h' (by rw [hg]; exact h1) (by rw [hd]; exact hq),alO h h1 hq]; rfl
   | some r =>
     rw [aiN h' (by rw [hg]; exact h1) (by rw [hd]; exact hq),aiN h h1 hq,show a.length+i+1+r.2=a.length+(i+1+r.2) by omega]
     exact ad0 c a s (i+1+r.2)
  ·by_cases h2:s[i]=c
   ·rw [aej h' (by rw [hg]; exact h1) (by rw [hg]; exact h2),aej h h1 h2]
    simp; omega
   ·rw [afS h' (by rw [hg]; exact h1) (by rw [hg]; exact h2),afS h h1 h2,Nat.add_assoc]
    exact ad0 c a s (i+1)
 ·rw [aey (by simp; omega),aey h]; rfl
termination_by s.length-i
theorem aln (c:UInt8) (a s:Bs) (h:∀ b ∈ a,b ≠ 34/\b ≠ c):∀ (m i:Nat),i+m=a.length->z8 c (a++s) i=z8 c (a++s) a.length
 | 0,i,hi=>by rw [<-hi,Nat.add_zero]
 | m+1,i,hi=>by
   have hlt:i<(a++s).length:=by simp; omega
   have hg:(a++s)[i]=a[i]'(by omega):=List.getElem_append_left (by omega)
   have hb:=h _ (List.getElem_mem (show i<a.length by omega))
   rw [afS hlt (by rw [hg]; exact hb.1) (by rw [hg]; exact hb.2)]
   exact aln c a s h m (i+1) (by omega)
theorem abZ {c:UInt8} {a:Bs} (s:Bs) (h:∀ b ∈ a,b ≠ 34/\b ≠ c):z8 c (a++s) 0=(z8 c s 0).map (·+a.length):=by
 rw [aln c a s h a.length 0 (by omega)]
 exact ad0 c a s 0
theorem adX {a:UInt8} {n:Nat} (hn:n<256):((a.toNat:Int)=(n:Int))<->a=UInt8.ofNat n:=by
 constructor
 ·intro h
  apply UInt8.toNat_inj.1
  rw [UInt8.toNat_ofNat']
  omega
 ·intro h
  rw [h,UInt8.toNat_ofNat']
  omega
theorem aoY (s:Bs) (hs:s.length<=1049600):qc Y1 [.str s]=some (.w5 (qT (qR (s.drop 1)))):=by
 suffices hg:l3 (cv Y1 [.str s] []) fun q=>q.1 = .w5 (qT (qR (s.drop 1))) by
  obtain ⟨⟨v,H⟩,e,h⟩:=hg
  have h:v=_:=h
  subst h
  refine y1 e (by simp only [b8]) ?_
  cases qR (s.drop 1)<;>simp only [qT,b8]
 rw [amw]
 refine l3.V3 (I:=fun n st H=>∃ (i:Nat) (t:Bs),n=s.length-i/\1<=i/\t.length<=i/\st=[.str s,.sl true (vB t),.int .i64 (i:Nat)]/\qR (s.drop 1)=(qR (s.drop i)).map fun r=>(t++r.1,(i-1)+r.2))
  (P:=fun q vs H=>(q=0/\vs=[]/\qR (s.drop 1)=none)\/(q=1/\vs=qT (qR (s.drop 1)))) (n:=s.length-1) ?_ ⟨1,[],rfl,by omega,by simp,rfl,by simp⟩ ?_
 ·rintro n st H ⟨i,t,rfl,hi,ht,rfl,inv⟩
  rw [ajc]
  by_cases hlt:i<s.length
  ·have i1:=N8 s .i64 i hlt
   have e2:a8 (.int .i64) .add (.int .i64 (i:Int)) (.int .i64 1)=some (.int .i64 ((i+1:Nat):Int)):=y4 _ i 1 (by omega)
   have ap:∀ b:UInt8,I6 false 1 1 (vB t) (.sl true [[.int .u8 (b.toNat:Int)]])=some (.sl true (vB (t++[b]))):=fun b=>by
    have:=ac2 1 1 (vB t) true (vB [b]) (acj _) (acj _) (by rw [abA,abA]; simp; omega)
    rw [show vB t++vB [b]=vB (t++[b]) from by simp [vB]] at this
    exact this
   have b1:abm (.sl false (vB t)) H=some (.str t):=by simp only [abm,afP,Option.map_some]
   have h34 := @adX s[i] 34 (by omega)
   have h92 := @adX s[i] 92 (by omega)
   by_cases h1:(s[i].toNat:Int)=34
   ·simp only [b8,i1,h1,b1,e2,show ((i:Int)<(s.length:Int)) from by omega]
    refine ⟨_,rfl,.inl ⟨1,rfl,.inr ⟨rfl,?_⟩⟩⟩
    rw [inv,auX hlt (h34.1 h1)]
    simp only [Option.map_some,qT,List.append_nil]
    rw [show 1+(i-1+1)=i+1 by omega]
   ·have n34:s[i] ≠ 34:=fun e=>h1 (h34.2 e)
    by_cases h2:(s[i].toNat:Int)=92
    ·by_cases h3:i+1=s.length
     ·simp only [b8,i1,h1,h2,e2,show ¬ ((92:Int)=34) from by decide,show (((i+1:Nat):Int)=(s.length:Int)) from by omega,show ((i:Int)<(s.length:Int)) from by omega]
      refine ⟨_,rfl,.inl ⟨1,rfl,.inr ⟨rfl,?_⟩⟩⟩
      rw [inv,awx hlt n34 h3]
      rfl
     ·have i2:=N8 s .i64 (i+1) (by omega)
      have e3:a8 (.int .i64) .add (.int .i64 ((i+1:Nat):Int)) (.int .i64 1)=some (.int .i64 ((i+1+1:Nat):Int)):=y4 _ (i+1) 1 (by omega)
      simp only [b8,i1,h1,h2,e2,i2,ap,e3,show ¬ ((92:Int)=34) from by decide,show ¬ (((i+1:Nat):Int)=(s.length:Int)) from by omega,show ((i:Int)<(s.length:Int)) from by omega]
      refine ⟨_,rfl,.inr ⟨rfl,s.length-(i+1+1),by omega,i+1+1,_,rfl,by omega,by simp; omega,rfl,?_⟩⟩
      rw [inv,awL (by omega) (h92.1 h2),Option.map_map]
      congr 1
      funext r
      simp only [Function.comp,List.append_assoc,List.cons_append,List.nil_append,Prod.mk.injEq,true_and]
      omega
    ·have n92:s[i] ≠ 92:=fun e=>h2 (h92.2 e)
     simp only [b8,i1,h1,h2,ap,e2,show ((i:Int)<(s.length:Int)) from by omega]
     refine ⟨_,rfl,.inr ⟨rfl,s.length-(i+1),by omega,i+1,_,rfl,by omega,by simp; omega,rfl,?_⟩⟩
     rw [inv,awd hlt n34 n92,Option.map_map]
     congr 1
     funext r
     simp only [Function.comp,List.append_assoc,List.cons_append,List.nil_append,Prod.mk.injEq,true_and]
     omega
  ·simp only [b8,show ¬ ((i:Int)<(s.length:Int)) from by omega]
   exact ⟨_,rfl,.inl ⟨0,rfl,.inl ⟨rfl,rfl,by rw [inv,axA (by omega)]; rfl⟩⟩⟩
 rintro _ _ H (⟨rfl,rfl,h⟩ | ⟨rfl,rfl⟩)
 ·rw [h]
  simp only [b8]
  exact l3.here rfl
 ·cases qR (s.drop 1) with
  | none=>simp only [b8,qT]; exact l3.here rfl
  | some r=>simp only [b8,qT]; exact l3.here rfl
def ouI:Option Nat->Int
 | some k=>(k:Int)
 | none => -1
theorem ais (s:Bs) (c:UInt8) (hs:s.length<=1049600):qc J1 [.str s,.int .u8 (c.toNat:Int)]=some (.int .i64 (ouI (z8 c s 0))):=by
 suffices h:l3 (cv J1 [.str s,.int .u8 (c.toNat:Int)] []) fun r=>r.1 = .int .i64 (ouI (z8 c s 0)) by
  obtain ⟨⟨v,H⟩,e,h⟩:=h
  have h:v=_:=h
  subst h
  exact y1 e (by simp only [b8]) rfl
 rw [alI]
 refine l3.V3 (I:=fun n st H=>∃ (i:Nat),n=s.length-i/\i<=s.length/\st=[.str s,.int .u8 (c.toNat:Int),.int .i64 (i:Nat)]/\z8 c s i=z8 c s 0)
  (P:=fun m vs H=>(m=0/\vs=[]/\z8 c s 0=none)\/(m=1/\vs=[.int .i64 (ouI (z8 c s 0))])) (n:=s.length) ?_ ⟨0,by omega,by omega,rfl,rfl⟩ ?_
 ·rintro n st H ⟨i,rfl,hi,rfl,inv⟩
  rw [ahI]
  by_cases hlt:i<s.length
  ·have i1:=N8 s .i64 i hlt
   have e2:a8 (.int .i64) .add (.int .i64 (i:Int)) (.int .i64 1)=some (.int .i64 ((i+1:Nat):Int)):=y4 _ i 1 (by omega)
   have h34 := @adX s[i] 34 (by omega)
   by_cases h1:(s[i].toNat:Int)=34
   ·have p2:=ade s .i64 i (by omega)
    have e3:=aoY (s.drop i) (by simp; omega)
    rw [List.drop_drop] at e3
    cases hq:qR (s.drop (i+1)) with
    | none =>
      rw [hq] at e3
      simp only [qT] at e3
      simp only [b8,i1,h1,p2,e3,show ((i:Int)<(s.length:Int)) from by omega]
      refine ⟨_,rfl,.inl ⟨1,rfl,.inr ⟨rfl,?_⟩⟩⟩
      rw [<-inv,alO hlt (h34.1 h1) hq]; rfl
    | some r =>
      have hr:=alE (t:=r.1) (k:=r.2) hq
      rw [List.length_drop] at hr
      rw [hq] at e3
      simp only [qT] at e3
      have a1:a8 (.int .i64) .sub (.int .i64 ((1+r.2:Nat):Int)) (.int .i64 1)=some (.int .i64 ((r.2:Nat):Int)):=by
       have:=adC (.int .i64) (1+r.2) 1 (by omega) (by omega)
       rw [show 1+r.2-1=r.2 by omega] at this
       exact this
      have a2:=y4 (.int .i64) i r.2 (by omega)
      have a3:a8 (.int .i64) .add (.int .i64 ((i+r.2:Nat):Int)) (.int .i64 1)=some (.int .i64 ((i+1+r.2:Nat):Int)):=by
       have:=y4 (.int .i64) (i+r.2) 1 (by omega)
       rw [show i+r.2+1=i+1+r.2 by omega] at this
       exact this
      simp only [b8,i1,h1,p2,e3,a1,a2,a3,show ((i:Int)<(s.length:Int)) from by omega]
      exact ⟨_,rfl,.inr ⟨rfl,s.length-(i+1+r.2),by omega,i+1+r.2,rfl,by omega,rfl,by rw [<-inv,aiN hlt (h34.1 h1) hq]⟩⟩
   ·have n34:s[i] ≠ 34:=fun e=>h1 (h34.2 e)
    have hk:((s[i].toNat:Int)=(c.toNat:Int))<->s[i]=c:=by
     constructor
     ·intro h; exact UInt8.toNat_inj.1 (by omega)
     ·intro h; rw [h]
    by_cases h2:s[i]=c
    ·have h3:¬ (c.toNat:Int)=34:=by rw [<-h2]; exact h1
     have hA:=aej hlt n34 h2
     rw [h2] at i1
     simp only [b8,i1,h3,show ((i:Int)<(s.length:Int)) from by omega]
     refine ⟨_,rfl,.inl ⟨1,rfl,.inr ⟨rfl,?_⟩⟩⟩
     rw [<-inv,hA]; rfl
    ·simp only [b8,i1,h1,hk,h2,e2,show ((i:Int)<(s.length:Int)) from by omega]
     exact ⟨_,rfl,.inr ⟨rfl,s.length-(i+1),by omega,i+1,rfl,by omega,rfl,by rw [<-inv,afS hlt n34 h2]⟩⟩
  ·simp only [b8,show ¬ ((i:Int)<(s.length:Int)) from by omega]
   exact ⟨_,rfl,.inl ⟨0,rfl,.inl ⟨rfl,rfl,by rw [<-inv,aey hlt]⟩⟩⟩
 rintro _ _ H (⟨rfl,rfl,h⟩ | ⟨rfl,rfl⟩)
 ·rw [h]
  simp only [b8]
  exact l3.here rfl
 ·simp only [b8]
  exact l3.here rfl
end Go.Proofs.YtmokcpfbeggigaaGreatDoor.Q
