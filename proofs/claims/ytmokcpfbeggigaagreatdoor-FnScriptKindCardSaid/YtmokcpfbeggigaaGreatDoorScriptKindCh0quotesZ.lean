/- Contracts: what stands in quotes, and places outside of quotes, exactly. -/
import Derived.Test.YtmokcpfbeggigaaGreatDoorScriptKindCd0scriptZ
namespace Go.Proofs.YtmokcpfbeggigaaGreatDoor.Q
open Go Go.AM
set_option linter.unusedSimpArgs false
set_option linter.unusedVariables false
set_option linter.unusedSectionVars false
def qR:Bs->Option (Bs × Nat)
 | []=>none
 | [c]=>if c=34 then some ([],1) else none
 | c::d::l=>if c=34 then some ([],1) else if c=92 then (qR l).map fun r=>(d::r.1,r.2+2) else (qR (d::l)).map fun r=>(c::r.1,r.2+1)
theorem asv {s:Bs} {i:Nat} (h:s.length<=i):qR (s.drop i)=none:=by rw [List.drop_eq_nil_of_le h]; rfl
theorem ao4 {s:Bs} {i:Nat} (h:i<s.length) (h1:s[i]=34):qR (s.drop i)=some ([],1):=by
 rw [List.drop_eq_getElem_cons h,h1]
 cases s.drop (i+1) with
 | nil=>simp [qR]
 | cons d l=>simp [qR]
theorem aqt {s:Bs} {i:Nat} (h:i<s.length) (h1:s[i] ≠ 34) (h2:i+1=s.length):qR (s.drop i)=none:=by
 rw [List.drop_eq_getElem_cons h,List.drop_eq_nil_of_le (by omega)]
 simp [qR,h1]
theorem aqK {s:Bs} {i:Nat} (h:i+1<s.length) (h1:s[i]=92):qR (s.drop i)=(qR (s.drop (i+1+1))).map fun r=>(s[i+1]::r.1,r.2+2):=by
 rw [List.drop_eq_getElem_cons (by omega),List.drop_eq_getElem_cons h,h1]
 simp [qR]
theorem aqe {s:Bs} {i:Nat} (h:i<s.length) (h1:s[i] ≠ 34) (h2:s[i] ≠ 92):qR (s.drop i)=(qR (s.drop (i+1))).map fun r=>(s[i]::r.1,r.2+1):=by
 rw [List.drop_eq_getElem_cons h]
 cases s.drop (i+1) with
 | nil=>simp [qR,h1]
 | cons d l=>simp [qR,h1,h2]
theorem afb:∀ {s:Bs} {t:Bs} {k:Nat},qR s=some (t,k)->1<=k/\k<=s.length/\t.length+1<=k
 | [],t,k,h=>by simp [qR] at h
 | [c],t,k,h=>by
   simp only [qR] at h
   split at h
   ·cases h; simp
   ·cases h
 | c::d::l,t,k,h=>by
   simp only [qR] at h
   split at h
   ·cases h; simp
   ·split at h
    ·obtain ⟨⟨t1,k1⟩,h1,h2⟩:=Option.map_eq_some_iff.1 h
     cases h2
     have:=afb h1
     simp only [List.length_cons]; omega
    ·obtain ⟨⟨t1,k1⟩,h1,h2⟩:=Option.map_eq_some_iff.1 h
     cases h2
     have:=afb h1
     simp only [List.length_cons] at this ⊢; omega
def qT:Option (Bs × Nat)->List V
 | some r=>[.str r.1,.int .i64 ((1+r.2:Nat):Int),.bool true]
 | none=>[.str [],.int .i64 0,.bool false]
def y5 (c:UInt8) (s:Bs) (i:Nat):Option Nat :=
 if h:i<s.length then
  if s[i]=34 then match qR (s.drop (i+1)) with | none=>none | some r=>y5 c s (i+1+r.2)
  else if s[i]=c then some i else y5 c s (i+1)
 else none
termination_by s.length-i
theorem agl {c:UInt8} {s:Bs} {i:Nat} (h:¬ i<s.length):y5 c s i=none:=by
 rw [y5,dif_neg h]
theorem aiO {c:UInt8} {s:Bs} {i:Nat} (h:i<s.length) (h1:s[i]=34) (h2:qR (s.drop (i+1))=none):y5 c s i=none:=by
 rw [y5,dif_pos h,if_pos h1]; simp only [h2]
theorem aiK {c:UInt8} {s:Bs} {i:Nat} {r:Bs × Nat} (h:i<s.length) (h1:s[i]=34) (h2:qR (s.drop (i+1))=some r):y5 c s i=y5 c s (i+1+r.2):=by
 conv=>lhs; rw [y5,dif_pos h,if_pos h1]
 simp only [h2]
theorem afU {c:UInt8} {s:Bs} {i:Nat} (h:i<s.length) (h1:s[i] ≠ 34) (h2:s[i]=c):y5 c s i=some i:=by
 rw [y5,dif_pos h,if_neg h1,if_pos h2]
theorem afp {c:UInt8} {s:Bs} {i:Nat} (h:i<s.length) (h1:s[i] ≠ 34) (h2:s[i] ≠ c):y5 c s i=y5 c s (i+1):=by
 conv=>lhs; rw [y5,dif_pos h,if_neg h1,if_neg h2]
theorem abE {c:UInt8} {s:Bs} {i k:Nat} (h:y5 c s i=some k):i<=k/\k<s.length:=by
 rw [y5] at h
 split at h
 ·rename_i hi
  split at h
  ·split at h
   ·cases h
   ·have:=abE h; omega
  ·split at h
   ·cases h; omega
   ·have:=abE h; omega
 ·cases h
termination_by s.length-i
theorem agW (c:UInt8) (a s:Bs) (i:Nat):y5 c (a++s) (a.length+i)=(y5 c s i).map (·+a.length):=by
 by_cases h:i<s.length
 ·have h':a.length+i<(a++s).length:=by simp; omega
  have hg:(a++s)[a.length+i]=s[i]:=by rw [List.getElem_append_right (by omega)]; congr 1; omega
  have hd:(a++s).drop (a.length+i+1)=s.drop (i+1):=by rw [Nat.add_assoc,List.drop_append]; simp
  by_cases h1:s[i]=34
  ·cases hq:qR (s.drop (i+1)) with
   | none=>rw [aiO h' (by rw [hg]; exact h1) (by rw [hd]; exact hq),aiO h h1 hq]; rfl
   | some r =>
     rw [aiK h' (by rw [hg]; exact h1) (by rw [hd]; exact hq),aiK h h1 hq,show a.length+i+1+r.2=a.length+(i+1+r.2) by omega]
     exact agW c a s (i+1+r.2)
  ·by_cases h2:s[i]=c
   ·rw [afU h' (by rw [hg]; exact h1) (by rw [hg]; exact h2),afU h h1 h2]
    simp; omega
   ·rw [afp h' (by rw [hg]; exact h1) (by rw [hg]; exact h2),afp h h1 h2,Nat.add_assoc]
    exact agW c a s (i+1)
 ·rw [agl (by simp; omega),agl h]; rfl
termination_by s.length-i
theorem ald (c:UInt8) (a s:Bs) (h:∀ b ∈ a,b ≠ 34/\b ≠ c):∀ (m i:Nat),i+m=a.length->y5 c (a++s) i=y5 c (a++s) a.length
 | 0,i,hi=>by rw [<-hi,Nat.add_zero]
 | m+1,i,hi=>by
   have hlt:i<(a++s).length:=by simp; omega
   have hg:(a++s)[i]=a[i]'(by omega):=List.getElem_append_left (by omega)
   have hb:=h _ (List.getElem_mem (show i<a.length by omega))
   rw [afp hlt (by rw [hg]; exact hb.1) (by rw [hg]; exact hb.2)]
   exact ald c a s h m (i+1) (by omega)
theorem ar6 {c:UInt8} {a:Bs} (s:Bs) (h:∀ b ∈ a,b ≠ 34/\b ≠ c):y5 c (a++s) 0=(y5 c s 0).map (·+a.length):=by
 rw [ald c a s h a.length 0 (by omega)]
 exact agW c a s 0
theorem U5 {a:UInt8} {n:Nat} (hn:n<256):((a.toNat:Int)=(n:Int))<->a=UInt8.ofNat n:=by
 constructor
 ·intro h
  apply UInt8.toNat_inj.1
  rw [UInt8.toNat_ofNat']
  omega
 ·intro h
  rw [h,UInt8.toNat_ofNat']
  omega
theorem apz (s:Bs) (hs:s.length<=1049600):qc V8 [.str s]=some (.n8 (qT (qR (s.drop 1)))):=by
 suffices hg:j2 (cv V8 [.str s] []) fun q=>q.1 = .n8 (qT (qR (s.drop 1))) by
  obtain ⟨⟨v,H⟩,e,h⟩:=hg
  have h:v=_:=h
  subst h
  refine u3 e (by simp only [b8]) ?_
  cases qR (s.drop 1)<;>simp only [qT,b8]
 rw [amg]
 refine j2.H5 (I:=fun n st H=>∃ (i:Nat) (t:Bs),n=s.length-i/\1<=i/\t.length<=i/\st=[.str s,.sl true (vB t),.int .i64 (i:Nat)]/\qR (s.drop 1)=(qR (s.drop i)).map fun r=>(t++r.1,(i-1)+r.2))
  (P:=fun q vs H=>(q=0/\vs=[]/\qR (s.drop 1)=none)\/(q=1/\vs=qT (qR (s.drop 1)))) (n:=s.length-1) ?_ ⟨1,[],rfl,by omega,by simp,rfl,by simp⟩ ?_
 ·rintro n st H ⟨i,t,rfl,hi,ht,rfl,inv⟩
  rw [ai2]
  by_cases hlt:i<s.length
  ·have i1:=G9 s .i64 i hlt
   have e2:a8 (.int .i64) .add (.int .i64 (i:Int)) (.int .i64 1)=some (.int .i64 ((i+1:Nat):Int)):=p6 _ i 1 (by omega)
   have ap:∀ b:UInt8,I5 false 1 1 (vB t) (.sl true [[.int .u8 (b.toNat:Int)]])=some (.sl true (vB (t++[b]))):=fun b=>by
    have:=agD 1 1 (vB t) true (vB [b]) (abJ _) (abJ _) (by rw [abk,abk]; simp; omega)
    rw [show vB t++vB [b]=vB (t++[b]) from by simp [vB]] at this
    exact this
   have b1:aan (.sl false (vB t)) H=some (.str t):=by simp only [aan,afF,Option.map_some]
   have h34 := @U5 s[i] 34 (by omega)
   have h92 := @U5 s[i] 92 (by omega)
   by_cases h1:(s[i].toNat:Int)=34
   ·simp only [b8,i1,h1,b1,e2,show ((i:Int)<(s.length:Int)) from by omega]
    refine ⟨_,rfl,.inl ⟨1,rfl,.inr ⟨rfl,?_⟩⟩⟩
    rw [inv,ao4 hlt (h34.1 h1)]
    simp only [Option.map_some,qT,List.append_nil]
    rw [show 1+(i-1+1)=i+1 by omega]
   ·have n34:s[i] ≠ 34:=fun e=>h1 (h34.2 e)
    by_cases h2:(s[i].toNat:Int)=92
    ·by_cases h3:i+1=s.length
     ·simp only [b8,i1,h1,h2,e2,show ¬ ((92:Int)=34) from by decide,show (((i+1:Nat):Int)=(s.length:Int)) from by omega,show ((i:Int)<(s.length:Int)) from by omega]
      refine ⟨_,rfl,.inl ⟨1,rfl,.inr ⟨rfl,?_⟩⟩⟩
      rw [inv,aqt hlt n34 h3]
      rfl
     ·have i2:=G9 s .i64 (i+1) (by omega)
      have e3:a8 (.int .i64) .add (.int .i64 ((i+1:Nat):Int)) (.int .i64 1)=some (.int .i64 ((i+1+1:Nat):Int)):=p6 _ (i+1) 1 (by omega)
      simp only [b8,i1,h1,h2,e2,i2,ap,e3,show ¬ ((92:Int)=34) from by decide,show ¬ (((i+1:Nat):Int)=(s.length:Int)) from by omega,show ((i:Int)<(s.length:Int)) from by omega]
      refine ⟨_,rfl,.inr ⟨rfl,s.length-(i+1+1),by omega,i+1+1,_,rfl,by omega,by simp; omega,rfl,?_⟩⟩
      rw [inv,aqK (by omega) (h92.1 h2),Option.map_map]
      congr 1
      funext r
      simp only [Function.comp,List.append_assoc,List.cons_append,List.nil_append,Prod.mk.injEq,true_and]
      omega
    ·have n92:s[i] ≠ 92:=fun e=>h2 (h92.2 e)
     simp only [b8,i1,h1,h2,ap,e2,show ((i:Int)<(s.length:Int)) from by omega]
     refine ⟨_,rfl,.inr ⟨rfl,s.length-(i+1),by omega,i+1,_,rfl,by omega,by simp; omega,rfl,?_⟩⟩
     rw [inv,aqe hlt n34 n92,Option.map_map]
     congr 1
     funext r
     simp only [Function.comp,List.append_assoc,List.cons_append,List.nil_append,Prod.mk.injEq,true_and]
     omega
  ·simp only [b8,show ¬ ((i:Int)<(s.length:Int)) from by omega]
   exact ⟨_,rfl,.inl ⟨0,rfl,.inl ⟨rfl,rfl,by rw [inv,asv (by omega)]; rfl⟩⟩⟩
 rintro _ _ H (⟨rfl,rfl,h⟩ | ⟨rfl,rfl⟩)
 ·rw [h]
  simp only [b8]
  exact j2.here rfl
 ·cases qR (s.drop 1) with
  | none=>simp only [b8,qT]; exact j2.here rfl
  | some r=>simp only [b8,qT]; exact j2.here rfl
def ouI:Option Nat->Int
 | some k=>(k:Int)
 | none => -1
theorem asj (s:Bs) (c:UInt8) (hs:s.length<=1049600):qc aab [.str s,.int .u8 (c.toNat:Int)]=some (.int .i64 (ouI (y5 c s 0))):=by
 suffices h:j2 (cv aab [.str s,.int .u8 (c.toNat:Int)] []) fun r=>r.1 = .int .i64 (ouI (y5 c s 0)) by
  obtain ⟨⟨v,H⟩,e,h⟩:=h
  have h:v=_:=h
  subst h
  exact u3 e (by simp only [b8]) rfl
 rw [alB]
 refine j2.H5 (I:=fun n st H=>∃ (i:Nat),n=s.length-i/\i<=s.length/\st=[.str s,.int .u8 (c.toNat:Int),.int .i64 (i:Nat)]/\y5 c s i=y5 c s 0)
  (P:=fun m vs H=>(m=0/\vs=[]/\y5 c s 0=none)\/(m=1/\vs=[.int .i64 (ouI (y5 c s 0))])) (n:=s.length) ?_ ⟨0,by omega,by omega,rfl,rfl⟩ ?_
 ·rintro n st H ⟨i,rfl,hi,rfl,inv⟩
  rw [aip]
  by_cases hlt:i<s.length
  ·have i1:=G9 s .i64 i hlt
   have e2:a8 (.int .i64) .add (.int .i64 (i:Int)) (.int .i64 1)=some (.int .i64 ((i+1:Nat):Int)):=p6 _ i 1 (by omega)
   have h34 := @U5 s[i] 34 (by omega)
   by_cases h1:(s[i].toNat:Int)=34
   ·have p2:=adC s .i64 i (by omega)
    have e3:=apz (s.drop i) (by simp; omega)
    rw [List.drop_drop] at e3
    cases hq:qR (s.drop (i+1)) with
    | none =>
      rw [hq] at e3
      simp only [qT] at e3
      simp only [b8,i1,h1,p2,e3,show ((i:Int)<(s.length:Int)) from by omega]
      refine ⟨_,rfl,.inl ⟨1,rfl,.inr ⟨rfl,?_⟩⟩⟩
      rw [<-inv,aiO hlt (h34.1 h1) hq]; rfl
    | some r =>
      have hr:=afb (t:=r.1) (k:=r.2) hq
      rw [List.length_drop] at hr
      rw [hq] at e3
      simp only [qT] at e3
      have a1:a8 (.int .i64) .sub (.int .i64 ((1+r.2:Nat):Int)) (.int .i64 1)=some (.int .i64 ((r.2:Nat):Int)):=by
       have:=aij (.int .i64) (1+r.2) 1 (by omega) (by omega)
       rw [show 1+r.2-1=r.2 by omega] at this
       exact this
      have a2:=p6 (.int .i64) i r.2 (by omega)
      have a3:a8 (.int .i64) .add (.int .i64 ((i+r.2:Nat):Int)) (.int .i64 1)=some (.int .i64 ((i+1+r.2:Nat):Int)):=by
       have:=p6 (.int .i64) (i+r.2) 1 (by omega)
       rw [show i+r.2+1=i+1+r.2 by omega] at this
       exact this
      simp only [b8,i1,h1,p2,e3,a1,a2,a3,show ((i:Int)<(s.length:Int)) from by omega]
      exact ⟨_,rfl,.inr ⟨rfl,s.length-(i+1+r.2),by omega,i+1+r.2,rfl,by omega,rfl,by rw [<-inv,aiK hlt (h34.1 h1) hq]⟩⟩
   ·have n34:s[i] ≠ 34:=fun e=>h1 (h34.2 e)
    have hk:((s[i].toNat:Int)=(c.toNat:Int))<->s[i]=c:=by
     constructor
     ·intro h; exact UInt8.toNat_inj.1 (by omega)
     ·intro h; rw [h]
    by_cases h2:s[i]=c
    ·have h3:¬ (c.toNat:Int)=34:=by rw [<-h2]; exact h1
     have hA:=afU hlt n34 h2
     rw [h2] at i1
     simp only [b8,i1,h3,show ((i:Int)<(s.length:Int)) from by omega]
     refine ⟨_,rfl,.inl ⟨1,rfl,.inr ⟨rfl,?_⟩⟩⟩
     rw [<-inv,hA]; rfl
    ·simp only [b8,i1,h1,hk,h2,e2,show ((i:Int)<(s.length:Int)) from by omega]
     exact ⟨_,rfl,.inr ⟨rfl,s.length-(i+1),by omega,i+1,rfl,by omega,rfl,by rw [<-inv,afp hlt n34 h2]⟩⟩
  ·simp only [b8,show ¬ ((i:Int)<(s.length:Int)) from by omega]
   exact ⟨_,rfl,.inl ⟨0,rfl,.inl ⟨rfl,rfl,by rw [<-inv,agl hlt]⟩⟩⟩
 rintro _ _ H (⟨rfl,rfl,h⟩ | ⟨rfl,rfl⟩)
 ·rw [h]
  simp only [b8]
  exact j2.here rfl
 ·simp only [b8]
  exact j2.here rfl
def lrT (a:Nat):Option (Bs × Nat)->List V
 | some r=>[.str r.1,.int .i64 ((a+1+r.2:Nat):Int)]
 | none=>[.str [],.int .i64 (-1)]
theorem apx (s:Bs) (a:Nat) (ha:a<s.length) (hs:s.length<=1000000000):qc W5 [.str s,.int .i64 (a:Nat)]=some (.n8 (lrT a (qR (s.drop (a+1))))):=by
 suffices h:j2 (cv W5 [.str s,.int .i64 (a:Nat)] []) fun r=>r.1 = .n8 (lrT a (qR (s.drop (a+1)))) by
  obtain ⟨⟨v,H⟩,e,h⟩:=h
  have h:v=_:=h
  subst h
  refine u3 e (by simp only [b8]) ?_
  cases qR (s.drop (a+1))<;>simp only [lrT,b8]
 have e0:a8 (.int .i64) .add (.int .i64 (a:Int)) (.int .i64 1)=some (.int .i64 ((a+1:Nat):Int)):=p6 _ a 1 (by omega)
 rw [alU]
 simp only [b8,e0]
 refine j2.H5 (I:=fun n st H=>∃ (i:Nat) (t:Bs),n=s.length-i/\a<i/\i<=s.length/\t.length<=i/\st=[.str s,.str t,.int .i64 (i:Nat)]/\qR (s.drop (a+1))=(qR (s.drop i)).map fun r=>(t++r.1,(i-(a+1))+r.2))
  (P:=fun m vs H=>(m=0/\vs=[]/\qR (s.drop (a+1))=none)\/(m=1/\vs=lrT a (qR (s.drop (a+1))))) (n:=s.length-(a+1)) ?_ ⟨a+1,[],rfl,by omega,by omega,by simp,rfl,by simp⟩ ?_
 ·rintro n st H ⟨i,t,rfl,hai,hi,ht,rfl,inv⟩
  rw [ajg]
  by_cases hlt:i<s.length
  ·have i1:=G9 s .i64 i hlt
   have e2:a8 (.int .i64) .add (.int .i64 (i:Int)) (.int .i64 1)=some (.int .i64 ((i+1:Nat):Int)):=p6 _ i 1 (by omega)
   have h34 := @U5 s[i] 34 (by omega)
   have h92 := @U5 s[i] 92 (by omega)
   have dt:∀ j (hj:j<s.length),(s.drop j).take (j+1-j)=[s[j]]:=fun j hj=>by
    rw [List.drop_eq_getElem_cons hj,show j+1-j=1 by omega]; rfl
   by_cases h1:(s[i].toNat:Int)=34
   ·simp only [b8,i1,h1,e2,show ((i:Int)<(s.length:Int)) from by omega]
    refine ⟨_,rfl,.inl ⟨1,rfl,.inr ⟨rfl,?_⟩⟩⟩
    rw [inv,ao4 hlt (h34.1 h1)]
    simp only [Option.map_some,lrT,List.append_nil]
    rw [show a+1+(i-(a+1)+1)=i+1 by omega]
   ·have n34:s[i] ≠ 34:=fun e=>h1 (h34.2 e)
    by_cases h2:(s[i].toNat:Int)=92
    ·by_cases h3:i+1=s.length
     ·simp only [b8,i1,h1,h2,e2,show ¬ ((92:Int)=34) from by decide,show (((i+1:Nat):Int)=(s.length:Int)) from by omega,show ((i:Int)<(s.length:Int)) from by omega]
      refine ⟨_,rfl,.inl ⟨1,rfl,.inr ⟨rfl,?_⟩⟩⟩
      rw [inv,aqt hlt n34 h3]
      rfl
     ·have e3:a8 (.int .i64) .add (.int .i64 ((i+1:Nat):Int)) (.int .i64 1)=some (.int .i64 ((i+1+1:Nat):Int)):=p6 _ (i+1) 1 (by omega)
      have p1:=aiy s .i64 .i64 (i+1) (i+1+1) (by omega) (by omega)
      rw [dt (i+1) (by omega)] at p1
      have a1:=G3 .str t [s[i+1]] (by simp; omega)
      simp only [b8,i1,h1,h2,e2,e3,p1,a1,show ¬ ((92:Int)=34) from by decide,show ¬ (((i+1:Nat):Int)=(s.length:Int)) from by omega,show ((i:Int)<(s.length:Int)) from by omega]
      refine ⟨_,rfl,.inr ⟨rfl,s.length-(i+1+1),by omega,i+1+1,_,rfl,by omega,by omega,by simp; omega,rfl,?_⟩⟩
      rw [inv,aqK (by omega) (h92.1 h2),Option.map_map]
      congr 1
      funext r
      simp only [Function.comp,List.append_assoc,List.cons_append,List.nil_append,Prod.mk.injEq,true_and]
      omega
    ·have n92:s[i] ≠ 92:=fun e=>h2 (h92.2 e)
     have p1:=aiy s .i64 .i64 i (i+1) (by omega) (by omega)
     rw [dt i hlt] at p1
     have a1:=G3 .str t [s[i]] (by simp; omega)
     simp only [b8,i1,h1,h2,e2,p1,a1,show ((i:Int)<(s.length:Int)) from by omega]
     refine ⟨_,rfl,.inr ⟨rfl,s.length-(i+1),by omega,i+1,_,rfl,by omega,by omega,by simp; omega,rfl,?_⟩⟩
     rw [inv,aqe hlt n34 n92,Option.map_map]
     congr 1
     funext r
     simp only [Function.comp,List.append_assoc,List.cons_append,List.nil_append,Prod.mk.injEq,true_and]
     omega
  ·simp only [b8,show ¬ ((i:Int)<(s.length:Int)) from by omega]
   exact ⟨_,rfl,.inl ⟨0,rfl,.inl ⟨rfl,rfl,by rw [inv,asv (by omega)]; rfl⟩⟩⟩
 rintro _ _ H (⟨rfl,rfl,h⟩ | ⟨rfl,rfl⟩)
 ·rw [h]
  simp only [b8]
  exact j2.here rfl
 ·cases qR (s.drop (a+1)) with
  | none=>simp only [b8,lrT]; exact j2.here rfl
  | some r=>simp only [b8,lrT]; exact j2.here rfl
def cuT (s:Bs):Option Nat->List V
 | some k=>[.str (s.take k),.str (s.drop (k+1)),.bool true]
 | none=>[.str s,.str [],.bool false]
theorem ama (s:Bs) (c:UInt8) (hs:s.length<=1000000000):qc D6 [.str s,.int .u8 (c.toNat:Int)]=some (.n8 (cuT s (y5 c s 0))):=by
 suffices h:j2 (cv D6 [.str s,.int .u8 (c.toNat:Int)] []) fun r=>r.1 = .n8 (cuT s (y5 c s 0)) by
  obtain ⟨⟨v,H⟩,e,h⟩:=h
  have h:v=_:=h
  subst h
  refine u3 e (by simp only [b8]) ?_
  cases y5 c s 0<;>simp only [cuT,b8]
 rw [anx]
 refine j2.H5 (I:=fun n st H=>∃ (i:Nat),n=s.length-i/\i<=s.length/\st=[.str s,.int .u8 (c.toNat:Int),.int .i64 (i:Nat)]/\y5 c s i=y5 c s 0)
  (P:=fun m vs H=>(m=0/\vs=[.str s]/\y5 c s 0=none)\/(m=1/\vs=cuT s (y5 c s 0))) (n:=s.length) ?_ ⟨0,by omega,by omega,rfl,rfl⟩ ?_
 ·rintro n st H ⟨i,rfl,hi,rfl,inv⟩
  rw [ajS]
  by_cases hlt:i<s.length
  ·have i1:=G9 s .i64 i hlt
   have e2:a8 (.int .i64) .add (.int .i64 (i:Int)) (.int .i64 1)=some (.int .i64 ((i+1:Nat):Int)):=p6 _ i 1 (by omega)
   have h34 := @U5 s[i] 34 (by omega)
   by_cases h1:(s[i].toNat:Int)=34
   ·have e3:=apx s i hlt hs
    cases hq:qR (s.drop (i+1)) with
    | none =>
      rw [hq] at e3
      simp only [lrT] at e3
      simp only [b8,i1,h1,e3,show ((-1:Int)<0) from by decide,show ((i:Int)<(s.length:Int)) from by omega]
      refine ⟨_,rfl,.inl ⟨1,rfl,.inr ⟨rfl,?_⟩⟩⟩
      rw [<-inv,aiO hlt (h34.1 h1) hq]; rfl
    | some r =>
      have hr:=afb (t:=r.1) (k:=r.2) hq
      rw [List.length_drop] at hr
      rw [hq] at e3
      simp only [lrT] at e3
      simp only [b8,i1,h1,e3,show ¬ (((i+1+r.2:Nat):Int)<0) from by omega,show ((i:Int)<(s.length:Int)) from by omega]
      exact ⟨_,rfl,.inr ⟨rfl,s.length-(i+1+r.2),by omega,i+1+r.2,rfl,by omega,rfl,by rw [<-inv,aiK hlt (h34.1 h1) hq]⟩⟩
   ·have n34:s[i] ≠ 34:=fun e=>h1 (h34.2 e)
    have hk:((s[i].toNat:Int)=(c.toNat:Int))<->s[i]=c:=by
     constructor
     ·intro h; exact UInt8.toNat_inj.1 (by omega)
     ·intro h; rw [h]
    by_cases h2:s[i]=c
    ·have p1:=agA s .i64 i (by omega)
     have p2:=adC s .i64 (i+1) (by omega)
     have h3:¬ (c.toNat:Int)=34:=by rw [<-h2]; exact h1
     have hA:=afU hlt n34 h2
     rw [h2] at i1
     simp only [b8,i1,h3,e2,p1,p2,show ((i:Int)<(s.length:Int)) from by omega]
     refine ⟨_,rfl,.inl ⟨1,rfl,.inr ⟨rfl,?_⟩⟩⟩
     rw [<-inv,hA]; rfl
    ·simp only [b8,i1,h1,hk,h2,e2,show ((i:Int)<(s.length:Int)) from by omega]
     exact ⟨_,rfl,.inr ⟨rfl,s.length-(i+1),by omega,i+1,rfl,by omega,rfl,by rw [<-inv,afp hlt n34 h2]⟩⟩
  ·simp only [b8,show ¬ ((i:Int)<(s.length:Int)) from by omega]
   exact ⟨_,rfl,.inl ⟨0,rfl,.inl ⟨rfl,rfl,by rw [<-inv,agl hlt]⟩⟩⟩
 rintro _ _ H (⟨rfl,rfl,h⟩ | ⟨rfl,rfl⟩)
 ·rw [h]
  simp only [b8]
  exact j2.here rfl
 ·cases y5 c s 0 with
  | none=>simp only [b8,cuT]; exact j2.here rfl
  | some r=>simp only [b8,cuT]; exact j2.here rfl
end Go.Proofs.YtmokcpfbeggigaaGreatDoor.Q
