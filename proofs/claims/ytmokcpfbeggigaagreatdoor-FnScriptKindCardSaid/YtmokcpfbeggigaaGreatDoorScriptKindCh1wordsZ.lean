/- Contracts: words of a text, blanks at its ends. -/
import Derived.Test.YtmokcpfbeggigaaGreatDoorScriptKindCh0quotesZ
namespace Go.Proofs.YtmokcpfbeggigaaGreatDoor.Q
open Go Go.AM
set_option linter.unusedSimpArgs false
set_option linter.unusedVariables false
set_option linter.unusedSectionVars false
def D1 (c:UInt8):Bs->Bs
 | []=>[]
 | b::l=>if b=c then D1 c l else b::l
def L0 (c:UInt8):Bs->Bs
 | []=>[]
 | b::l=>if L0 c l=[] then (if b=c then [] else [b]) else b::L0 c l
theorem aen (c:UInt8):∀ l:Bs,L0 c (l++[c])=L0 c l
 | []=>by simp [L0]
 | b::l=>by simp only [List.cons_append,L0,aen c l]
theorem ac3 {b c:UInt8} (h:b ≠ c):∀ l:Bs,L0 c (l++[b])=l++[b]
 | []=>by simp [L0,h]
 | x::l=>by
   simp only [List.cons_append,L0,ac3 h l]
   rw [if_neg (by simp)]
theorem aiU (c:UInt8):∀ s:Bs,D1 c (L0 c s)=L0 c (D1 c s)
 | []=>rfl
 | b::l=>by
   have ih:=aiU c l
   by_cases hb:b=c
   ·subst hb
    simp only [L0,D1,if_true]
    by_cases h:L0 b l=[]
    ·rw [if_pos h]
     rw [h] at ih
     exact ih
    ·rw [if_neg h]
     simp only [D1,if_true]
     exact ih
   ·simp only [D1,if_neg hb,L0]
    by_cases h:L0 c l=[]
    ·rw [if_pos h]; simp [D1,hb]
    ·rw [if_neg h]; simp [D1,hb]
theorem aiJ (c:UInt8):∀ (s:Bs),∀ b ∈ D1 c s,b ∈ s
 | [],b,h=>h
 | x::l,b,h=>by
   unfold D1 at h
   split at h
   ·exact List.mem_cons_of_mem _ (aiJ c l b h)
   ·exact h
theorem aqD (c:UInt8):∀ (s:Bs),∀ b ∈ L0 c s,b ∈ s
 | [],b,h=>h
 | x::l,b,h=>by
   unfold L0 at h
   split at h
   ·split at h
    ·cases h
    ·simp at h; subst h; simp
   ·rcases List.mem_cons.1 h with rfl | h
    ·simp
    ·exact List.mem_cons_of_mem _ (aqD c l b h)
theorem alW (c:UInt8):∀ (s:Bs),(D1 c s).length<=s.length
 | []=>Nat.le_refl _
 | x::l=>by
   have:=alW c l
   unfold D1
   split
   ·simp; omega
   ·exact Nat.le_refl _
theorem amf (c:UInt8):∀ (s:Bs),(L0 c s).length<=s.length
 | []=>Nat.le_refl _
 | x::l=>by
   have:=amf c l
   unfold L0
   split
   ·split<;>simp
   ·simp; omega
def l7 (s:Bs):Bs:=D1 32 (L0 32 s)
theorem aaE (s:Bs):(l7 s).length<=s.length:=Nat.le_trans (alW _ _) (amf _ _)
theorem atm (s:Bs):∀ b ∈ l7 s,b ∈ s:=fun b h=>aqD _ _ b (aiJ _ _ b h)
theorem agV {s t:Bs} (hs:u7 s=true) (h:∀ b ∈ t,b ∈ s) (hl:t.length<=s.length):u7 t=true:=by
 unfold u7 at hs ⊢
 simp only [Bool.and_eq_true,Bool.not_eq_true',List.any_eq_false,decide_eq_true_eq] at hs ⊢
 exact ⟨fun b hb=>hs.1 b (h b hb),by omega⟩
theorem asf {s:Bs} (hs:u7 s=true) (n:Nat):u7 (s.take n)=true:=agV hs (fun b h=>List.mem_of_mem_take h) (by simp; omega)
theorem amU {s:Bs} (hs:u7 s=true) (n:Nat):u7 (s.drop n)=true:=agV hs (fun b h=>List.mem_of_mem_drop h) (by simp)
theorem Y0 {s:Bs} (hs:u7 s=true):s.length<=200:=by
 unfold u7 at hs
 simp only [Bool.and_eq_true,decide_eq_true_eq] at hs
 exact hs.2
def A4 (s:Bs) (i:Nat):Nat:=if h:i<s.length then (if M8 s[i].toNat=true then A4 s (i+1) else i) else i
termination_by s.length-i
theorem adW {s:Bs} {i:Nat} (h:i<s.length) (h1:M8 s[i].toNat=true):A4 s i=A4 s (i+1):=by
 conv=>lhs; rw [A4,dif_pos h,if_pos h1]
theorem acr {s:Bs} {i:Nat} (h:i<s.length) (h1:¬ M8 s[i].toNat=true):A4 s i=i:=by
 rw [A4,dif_pos h,if_neg h1]
theorem aef {s:Bs} {i:Nat} (h:¬ i<s.length):A4 s i=i:=by
 rw [A4,dif_neg h]
theorem abI {s:Bs} {i:Nat}:i<=A4 s i/\(i<=s.length->A4 s i<=s.length):=by
 rw [A4]
 split
 ·split
  ·have:=abI (s:=s) (i:=i+1)
   exact ⟨by omega,fun _=>this.2 (by omega)⟩
  ·exact ⟨Nat.le_refl _,fun h=>h⟩
 ·exact ⟨Nat.le_refl _,fun h=>h⟩
termination_by s.length-i
def B3 (s:Bs) (i:Nat) (ap:Bool) (acc:List Bs):Option (List Bs) :=
 if h:i<s.length then
  if s[i]=32 then B3 s (i+1) true acc
  else if ap=false then none
  else if s[i]=34 then match qR (s.drop (i+1)) with | none=>none | some r=>B3 s (i+1+r.2) false (acc++[r.1])
  else if hk:A4 s i=i then none else B3 s (A4 s i) false (acc++[(s.drop i).take (A4 s i-i)])
 else some acc
termination_by s.length-i
decreasing_by
 ·omega
 ·omega
 ·have:=abI (s:=s) (i:=i); omega
section
variable {s:Bs} {i:Nat} {ap:Bool} {acc:List Bs}
theorem aaJ (h:¬ i<s.length):B3 s i ap acc=some acc:=by rw [B3,dif_neg h]
theorem P7 (h:i<s.length) (h1:s[i]=32):B3 s i ap acc=B3 s (i+1) true acc:=by
 conv=>lhs; rw [B3,dif_pos h,if_pos h1]
theorem abA (h:i<s.length) (h1:s[i] ≠ 32):B3 s i false acc=none:=by
 rw [B3,dif_pos h,if_neg h1,if_pos rfl]
theorem afK (h:i<s.length) (h2:s[i]=34) (h3:qR (s.drop (i+1))=none):B3 s i true acc=none:=by
 rw [B3,dif_pos h,if_neg (by rw [h2]; decide),if_neg (by decide),if_pos h2]; simp only [h3]
theorem afz {r:Bs × Nat} (h:i<s.length) (h2:s[i]=34) (h3:qR (s.drop (i+1))=some r):B3 s i true acc=B3 s (i+1+r.2) false (acc++[r.1]):=by
 conv=>lhs; rw [B3,dif_pos h,if_neg (by rw [h2]; decide),if_neg (by decide),if_pos h2]
 simp only [h3]
theorem agd (h:i<s.length) (h1:s[i] ≠ 32) (h2:s[i] ≠ 34) (h3:A4 s i=i):B3 s i true acc=none:=by
 rw [B3,dif_pos h,if_neg h1,if_neg (by decide),if_neg h2,dif_pos h3]
theorem afq (h:i<s.length) (h1:s[i] ≠ 32) (h2:s[i] ≠ 34) (h3:A4 s i ≠ i):B3 s i true acc=B3 s (A4 s i) false (acc++[(s.drop i).take (A4 s i-i)]):=by
 conv=>lhs; rw [B3,dif_pos h,if_neg h1,if_neg (by decide),if_neg h2,dif_neg h3]
theorem akH (h:¬ (i<s.length)\/∃ h:i<s.length,s[i]=32):B3 s i false acc=B3 s i true acc:=by
 rcases h with h | ⟨h,h1⟩
 ·rw [aaJ h,aaJ h]
 ·rw [P7 h h1,P7 h h1]
end
def wdX:Option (List Bs)->List V
 | some ws=>[.sl true (vT ws),.bool true]
 | none=>[.sl true [],.bool false]
theorem av0 (s:Bs) (c:UInt8) (hs:s.length<=1000000000):qc F8 [.str s,.int .u8 (c.toNat:Int)]=some (.str (L0 c s)):=by
 suffices h:j2 (cv F8 [.str s,.int .u8 (c.toNat:Int)] []) fun r=>r.1 = .str (L0 c s) by
  obtain ⟨⟨v,H⟩,e,h⟩:=h
  have h:v=_:=h
  subst h
  exact u3 e (by simp only [b8]) rfl
 rw [aer]
 refine j2.H5 (I:=fun n st H=>∃ t:Bs,n=t.length/\t.length<=s.length/\st=[.str t,.int .u8 (c.toNat:Int)]/\L0 c t=L0 c s)
  (P:=fun q vs H=>q=0/\vs=[.str (L0 c s)]) (n:=s.length) ?_ ⟨s,rfl,by omega,rfl,rfl⟩ ?_
 ·rintro n st H ⟨t,rfl,ht,rfl,inv⟩
  rw [ac4]
  rcases List.eq_nil_or_concat t with rfl | ⟨l,b,rfl⟩
  ·simp only [b8,List.length_nil,show ¬ (((0:Nat):Int)>0) from by omega]
   exact ⟨_,rfl,.inl ⟨0,rfl,rfl,by rw [<-inv]; rfl⟩⟩
  ·have hlen:(l.concat b).length=l.length+1:=by simp
   rw [hlen] at ht
   simp only [List.concat_eq_append] at hlen inv ⊢
   have a1:a8 (.int .i64) .sub (.int .i64 ((l.length+1:Nat):Int)) (.int .i64 1)=some (.int .i64 ((l.length:Nat):Int)):=aij _ (l.length+1) 1 (by omega) (by omega)
   have i1:=G9 (l++[b]) .i64 l.length (by simp)
   rw [List.getElem_concat_length (by rfl)] at i1
   have p1:=agA (l++[b]) .i64 l.length (by simp)
   rw [List.take_left] at p1
   by_cases hb:b=c
   ·subst hb
    simp only [b8,hlen,a1,i1,p1,show (((l.length+1:Nat):Int)>0) from by omega]
    exact ⟨_,rfl,.inr ⟨rfl,l.length,by omega,l,rfl,by omega,rfl,by rw [<-inv,aen]⟩⟩
   ·have hk:¬ ((b.toNat:Int)=(c.toNat:Int)):=fun e=>hb (UInt8.toNat_inj.1 (by omega))
    simp only [b8,hlen,a1,i1,hk,show (((l.length+1:Nat):Int)>0) from by omega]
    exact ⟨_,rfl,.inl ⟨0,rfl,rfl,by rw [<-inv,ac3 hb]⟩⟩
 rintro _ _ H ⟨rfl,rfl⟩
 simp only [b8]
 exact j2.here rfl
theorem av5 (s:Bs) (c:UInt8) (hs:s.length<=1000000000):qc G6 [.str s,.int .u8 (c.toNat:Int)]=some (.str (D1 c s)):=by
 suffices h:j2 (cv G6 [.str s,.int .u8 (c.toNat:Int)] []) fun r=>r.1 = .str (D1 c s) by
  obtain ⟨⟨v,H⟩,e,h⟩:=h
  have h:v=_:=h
  subst h
  exact u3 e (by simp only [b8]) rfl
 rw [aeD]
 refine j2.H5 (I:=fun n st H=>∃ t:Bs,n=t.length/\t.length<=s.length/\st=[.str t,.int .u8 (c.toNat:Int)]/\D1 c t=D1 c s)
  (P:=fun q vs H=>q=0/\vs=[.str (D1 c s)]) (n:=s.length) ?_ ⟨s,rfl,by omega,rfl,rfl⟩ ?_
 ·rintro n st H ⟨t,rfl,ht,rfl,inv⟩
  rw [ade]
  cases t with
  | nil =>
    simp only [b8,List.length_nil,show ¬ (((0:Nat):Int)>0) from by omega]
    exact ⟨_,rfl,.inl ⟨0,rfl,rfl,by rw [<-inv]; rfl⟩⟩
  | cons b l =>
    have i1:l8 (.str (b::l)) (.int .i64 0)=some (.int .u8 (b.toNat:Int)):=G9 (b::l) .i64 0 (by simp)
    have p1:w5 (.str (b::l)) (some (.int .i64 1)) none=some (.str l):=adC (b::l) .i64 1 (by simp)
    simp only [List.length_cons] at ht
    by_cases hb:b=c
    ·subst hb
     simp only [b8,List.length_cons,i1,p1,show (((l.length+1:Nat):Int)>0) from by omega]
     exact ⟨_,rfl,.inr ⟨rfl,l.length,by simp,l,rfl,by omega,rfl,by rw [<-inv]; simp [D1]⟩⟩
    ·have hk:¬ ((b.toNat:Int)=(c.toNat:Int)):=fun e=>hb (UInt8.toNat_inj.1 (by omega))
     simp only [b8,List.length_cons,i1,hk,show (((l.length+1:Nat):Int)>0) from by omega]
     exact ⟨_,rfl,.inl ⟨0,rfl,rfl,by rw [<-inv]; simp [D1,hb]⟩⟩
 rintro _ _ H ⟨rfl,rfl⟩
 simp only [b8]
 exact j2.here rfl
set_option maxRecDepth 100000 in
theorem ao0 (s:Bs) (hs:s.length<=1000000000):qc aai [.str s,.str [32]]=some (.str (l7 s)):=by
 have e1:qc F8 [.str s,.int .u8 32]=_:=av0 s 32 hs
 have e2:qc G6 [.str (L0 32 s),.int .u8 32]=_:=av5 (L0 32 s) 32 (by have:=amf 32 s; omega)
 have i1:l8 (.str [32]) (.int .i64 0)=some (.int .u8 32):=rfl
 refine u3 (H:=[]) ?_ (by simp only [b8]) rfl
 show cv _ _ _=_
 rw [alb]
 by_cases h:s=[]
 ·subst h
  simp only [b8,decide_true]
  rfl
 ·have n2:¬ (([32]:Bs)=[]):=by decide
  simp only [b8,e1,e2,i1,h,n2,show ((32:Int)<128) from by decide]
  try rfl
theorem awp (s:Bs) (v1 v2:V) (H:VH) (hs:s.length<=1000) (j:Nat) (hj:j<=s.length):j2 (l3 aar [.str s,v1,v2,.int .i64 (j:Nat)] H) fun r=>r=(0,[.str s,v1,v2,.int .i64 ((A4 s j:Nat):Int)],H):=by
 refine j2.loop (I:=fun n st G=>∃ i:Nat,n=s.length-i/\i<=s.length/\A4 s i=A4 s j/\G=H/\st=[.str s,v1,v2,.int .i64 (i:Nat)]) ?_ (s.length-j) _ H ⟨j,rfl,hj,rfl,rfl,rfl⟩
 rintro n st G ⟨i,rfl,hi,inv,rfl,rfl⟩
 rw [afY]
 by_cases hlt:i<s.length
 ·have i1:=G9 s .i64 i hlt
  have e1:=aib (s[i].toNat:Int)
  have e2:a8 (.int .i64) .add (.int .i64 (i:Int)) (.int .i64 1)=some (.int .i64 ((i+1:Nat):Int)):=p6 _ i 1 (by omega)
  by_cases ha:M8 s[i].toNat=true
  ·rw [ha] at e1
   simp only [b8,i1,e1,e2,show ((i:Int)<(s.length:Int)) from by omega]
   exact j2.here ⟨s.length-(i+1),by omega,i+1,rfl,by omega,by rw [<-inv,adW hlt ha],rfl,rfl⟩
  ·have ha':M8 s[i].toNat=false:=by simpa using ha
   rw [ha'] at e1
   simp only [b8,i1,e1,show ((i:Int)<(s.length:Int)) from by omega]
   rw [<-inv,acr hlt ha]
   exact j2.here rfl
 ·simp only [b8,show ¬ ((i:Int)<(s.length:Int)) from by omega]
  rw [<-inv,aef hlt]
  exact j2.here rfl
theorem aog (s:Bs) (ht:u7 s=true):pc T2 [.str s]=some (.n8 (wdX (B3 s 0 true []))):=by
 have hs:=Y0 ht
 have e0:=acK s (by omega)
 rw [ht] at e0
 suffices h:j2 (cv T2 [.str s] []) fun r=>r.1 = .n8 (wdX (B3 s 0 true [])) by
  obtain ⟨⟨v,H⟩,e,h⟩:=h
  have h:v=_:=h
  subst h
  refine aeW e (by simp only [b8]) ?_
  cases B3 s 0 true []<;>simp only [wdX,b8]
 rw [aiv]
 simp only [b8,e0]
 refine j2.H5 (I:=fun n st H=>∃ (i:Nat) (ap:Bool) (acc:List Bs),n=s.length-i/\i<=s.length/\acc.length<=i/\st=[.str s,.sl true (vT acc),.int .i64 (i:Nat),.bool ap]/\B3 s i ap acc=B3 s 0 true [])
  (P:=fun q vs H=>(q=0/\∃ ws,B3 s 0 true []=some ws/\vs=[.sl true (vT ws)])\/(q=1/\B3 s 0 true []=none/\vs=[.sl true [],.bool false])) (n:=s.length) ?_ ⟨0,true,[],by omega,by omega,by simp,rfl,rfl⟩ ?_
 ·rintro n st H ⟨i,ap,acc,rfl,hi,hacc,rfl,inv⟩
  rw [afN]
  by_cases hlt:i<s.length
  ·have i1:=G9 s .i64 i hlt
   have h32 := @U5 s[i] 32 (by omega)
   have h34 := @U5 s[i] 34 (by omega)
   have e2:a8 (.int .i64) .add (.int .i64 (i:Int)) (.int .i64 1)=some (.int .i64 ((i+1:Nat):Int)):=p6 _ i 1 (by omega)
   have ap1:∀ t:Bs,I5 false 1 16 (vT acc) (.sl true [[.str t]])=some (.sl true (vT (acc++[t]))):=fun t=>by
    have:=agD 1 16 (vT acc) true (vT [t]) (abS _) (abS _) (by rw [abW,abW]; simp; omega)
    rw [aoH] at this
    exact this
   by_cases h1:(s[i].toNat:Int)=32
   ·simp only [b8,i1,h1,e2,show ((i:Int)<(s.length:Int)) from by omega]
    exact ⟨_,rfl,.inr ⟨rfl,s.length-(i+1),by omega,i+1,true,acc,rfl,by omega,by omega,rfl,by rw [<-inv,P7 hlt (h32.1 h1)]⟩⟩
   ·have n32:s[i] ≠ 32:=fun e=>h1 (h32.2 e)
    cases ap with
    | false =>
      simp only [b8,i1,h1,show ((i:Int)<(s.length:Int)) from by omega]
      exact ⟨_,rfl,.inl ⟨1,rfl,.inr ⟨rfl,by rw [<-inv,abA hlt n32],rfl⟩⟩⟩
    | true =>
      by_cases h2:(s[i].toNat:Int)=34
      ·have p2:=adC s .i64 i (by omega)
       have e3:=apz (s.drop i) (by simp; omega)
       rw [List.drop_drop] at e3
       cases hq:qR (s.drop (i+1)) with
       | none =>
         rw [hq] at e3
         simp only [qT] at e3
         simp only [b8,i1,h1,h2,p2,e3,show ¬ ((34:Int)=32) from by decide,show ((i:Int)<(s.length:Int)) from by omega]
         exact ⟨_,rfl,.inl ⟨1,rfl,.inr ⟨rfl,by rw [<-inv,afK hlt (h34.1 h2) hq],rfl⟩⟩⟩
       | some r =>
         have hr:=afb (t:=r.1) (k:=r.2) hq
         rw [List.length_drop] at hr
         rw [hq] at e3
         simp only [qT] at e3
         have a2:a8 (.int .i64) .add (.int .i64 (i:Int)) (.int .i64 ((1+r.2:Nat):Int))=some (.int .i64 ((i+1+r.2:Nat):Int)):=by
          have:=p6 (.int .i64) i (1+r.2) (by omega)
          rw [show i+(1+r.2)=i+1+r.2 by omega] at this
          exact this
         simp only [b8,i1,h1,h2,p2,e3,a2,ap1,show ¬ ((34:Int)=32) from by decide,show ((i:Int)<(s.length:Int)) from by omega]
         exact ⟨_,rfl,.inr ⟨rfl,s.length-(i+1+r.2),by omega,i+1+r.2,false,acc++[r.1],rfl,by omega,by simp; omega,rfl,by rw [<-inv,afz hlt (h34.1 h2) hq]⟩⟩
      ·have n34:s[i] ≠ 34:=fun e=>h2 (h34.2 e)
       have hge:=abI (s:=s) (i:=i)
       simp only [b8,i1,h1,h2,show ((i:Int)<(s.length:Int)) from by omega]
       refine (awp s (.sl true (vT acc)) (.int .i64 (i:Nat)) H (by omega) i hi).bind ?_
       rintro _ rfl
       by_cases h3:A4 s i=i
       ·simp only [b8,h3]
        exact ⟨_,rfl,.inl ⟨1,rfl,.inr ⟨rfl,by rw [<-inv,agd hlt n32 n34 h3],rfl⟩⟩⟩
       ·have p3:=aiy s .i64 .i64 i (A4 s i) hge.1 (hge.2 hi)
        simp only [b8,p3,ap1,show ¬ (((A4 s i:Nat):Int)=(i:Int)) from by omega]
        exact ⟨_,rfl,.inr ⟨rfl,s.length-A4 s i,by have:=hge.2 hi; omega,A4 s i,false,acc++[(s.drop i).take (A4 s i-i)],rfl,hge.2 hi,by simp; omega,rfl,by rw [<-inv,afq hlt n32 n34 h3]⟩⟩
  ·simp only [b8,show ¬ ((i:Int)<(s.length:Int)) from by omega]
   exact ⟨_,rfl,.inl ⟨0,rfl,.inl ⟨rfl,acc,by rw [<-inv,aaJ hlt],rfl⟩⟩⟩
 rintro _ _ H (⟨rfl,ws,h,rfl⟩ | ⟨rfl,h,rfl⟩)
 ·rw [h]
  simp only [b8]
  exact j2.here rfl
 ·rw [h]
  simp only [b8]
  exact j2.here rfl
def W0 (b:UInt8):Bs:=if b=34\/b=92 then [92,b] else [b]
def afg (s:Bs):Bs:=[34]++(s.map W0).flatten++[34]
def aaG (s:Bs):Bs:=if u7 s=false then [] else if aca s=true then s else afg s
theorem amd:∀ s:Bs,((s.map W0).flatten).length<=2*s.length
 | []=>by simp
 | b::s=>by
   have:=amd s
   simp only [List.map_cons,List.flatten_cons,List.length_append,List.length_cons]
   have h1:(W0 b).length<=2:=by unfold W0; split<;>simp
   omega
theorem aei (s:Bs):(aaG s).length<=2*s.length+2:=by
 have:=amd s
 unfold aaG afg
 split
 ·simp
 ·split
  ·omega
  ·simp only [List.length_append,List.length_cons,List.length_nil]; omega
def quI (s:Bs) (i:Nat):Bs:=[34]++((s.take i).map W0).flatten
theorem acm {s:Bs} {i:Nat} (h:i<s.length):quI s (i+1)=quI s i++W0 s[i]:=by
 unfold quI
 rw [List.take_succ_eq_append_getElem h,List.map_append,List.flatten_append,List.append_assoc]
 simp only [List.map_cons,List.map_nil,List.flatten_cons,List.flatten_nil,List.append_nil]
theorem aiG (s:Bs) (i:Nat):(quI s i).length<=2*s.length+1:=by
 have:=amd (s.take i)
 have h2:(s.take i).length<=s.length:=by simp; omega
 unfold quI
 simp only [List.length_append,List.length_cons,List.length_nil]
 omega
theorem ap7 (s:Bs):quI s s.length++[34]=afg s:=by unfold quI afg; rw [List.take_length]
theorem apK (s:Bs) (hs:s.length<=1000000):qc V0 [.str s]=some (.str (aaG s)):=by
 have e0:=acK s (by omega)
 have e1:=apT s (by omega)
 suffices h:j2 (cv V0 [.str s] []) fun r=>r.1 = .str (aaG s) by
  obtain ⟨⟨v,H⟩,e,h⟩:=h
  have h:v=_:=h
  subst h
  exact u3 e (by simp only [b8]) rfl
 rw [ajj]
 unfold aaG
 by_cases ht:u7 s=true
 ·rw [ht] at e0
  by_cases ha:aca s=true
  ·rw [ha] at e1
   simp only [b8,e0,e1,ht,ha]
   exact j2.here rfl
  ·have ha':aca s=false:=by simpa using ha
   rw [ha'] at e1
   have hB:([[V.int .u8 34]]:List (List V))=vB [34]:=rfl
   simp only [b8,e0,e1,ht,ha',hB]
   refine j2.H5 (I:=fun n st H=>∃ (i:Nat),n=s.length-i/\i<=s.length/\st=[.str s,.sl true (vB (quI s i)),.int .i64 (s.length:Nat),.int .i64 (i:Nat)])
    (P:=fun q vs H=>q=0/\vs=[.sl true (vB (quI s s.length))]) (n:=s.length) ?_ ⟨0,by omega,by omega,rfl⟩ ?_
   ·rintro n st H ⟨i,rfl,hi,rfl⟩
    rw [agj]
    have hAl:=aiG s i
    by_cases hlt:i<s.length
    ·have i1:=G9 s .i64 i hlt
     have h34 := @U5 s[i] 34 (by omega)
     have h92 := @U5 s[i] 92 (by omega)
     have e2:a8 (.int .i64) .add (.int .i64 (i:Int)) (.int .i64 1)=some (.int .i64 ((i+1:Nat):Int)):=p6 _ i 1 (by omega)
     have ap:∀ (t:Bs) (b:UInt8),t.length<=(quI s i).length+1->I5 false 1 1 (vB t) (.sl true [[.int .u8 (b.toNat:Int)]])=some (.sl true (vB (t++[b]))):=fun t b ht=>by
      have:=agD 1 1 (vB t) true (vB [b]) (abJ _) (abJ _) (by rw [abk,abk]; simp; omega)
      rw [show vB t++vB [b]=vB (t++[b]) from by simp [vB]] at this
      exact this
     have ap1:=ap (quI s i) s[i] (by omega)
     have ap2:I5 false 1 1 (vB (quI s i)) (.sl true [[.int .u8 92]])=some (.sl true (vB (quI s i++[92]))):=ap (quI s i) 92 (by omega)
     have ap3:=ap (quI s i++[92]) s[i] (by simp)
     by_cases h1:(s[i].toNat:Int)=34
     ·rw [h1] at ap3
      have hes:W0 s[i]=[92,s[i]]:=by unfold W0; rw [if_pos (.inl (h34.1 h1))]
      simp only [b8,i1,h1,ap2,ap3,e2,show ((i:Int)<(s.length:Int)) from by omega]
      exact ⟨_,rfl,.inr ⟨rfl,s.length-(i+1),by omega,i+1,rfl,by omega,by rw [acm hlt,hes]; simp⟩⟩
     ·by_cases h2:(s[i].toNat:Int)=92
      ·rw [h2] at ap3
       have hes:W0 s[i]=[92,s[i]]:=by unfold W0; rw [if_pos (.inr (h92.1 h2))]
       simp only [b8,i1,h1,h2,ap2,ap3,e2,show ¬ ((92:Int)=34) from by decide,show ((i:Int)<(s.length:Int)) from by omega]
       exact ⟨_,rfl,.inr ⟨rfl,s.length-(i+1),by omega,i+1,rfl,by omega,by rw [acm hlt,hes]; simp⟩⟩
      ·have hes:W0 s[i]=[s[i]]:=by unfold W0; rw [if_neg (fun h=>h.elim (fun e=>h1 (h34.2 e)) (fun e=>h2 (h92.2 e)))]
       simp only [b8,i1,h1,h2,ap1,e2,show ((i:Int)<(s.length:Int)) from by omega]
       exact ⟨_,rfl,.inr ⟨rfl,s.length-(i+1),by omega,i+1,rfl,by omega,by rw [acm hlt,hes]⟩⟩
    ·have:i=s.length:=by omega
     subst this
     simp only [b8,show ¬ ((s.length:Int)<(s.length:Int)) from by omega]
     exact ⟨_,rfl,.inl ⟨0,rfl,rfl,rfl⟩⟩
   rintro _ _ H ⟨rfl,rfl⟩
   have hel:=aiG s s.length
   have ap:I5 false 1 1 (vB (quI s s.length)) (.sl true (vB [34]))=some (.sl true (vB (afg s))):=by
    have:=agD 1 1 (vB (quI s s.length)) true (vB [34]) (abJ _) (abJ _) (by rw [abk,abk]; simp; omega)
    rw [show ∀ t,vB t++vB [34]=vB (t++[34]) from fun t=>by simp [vB],ap7] at this
    exact this
   have b1:aan (.sl true (vB (afg s))) H=some (.str (afg s)):=by simp only [aan,afF,Option.map_some]
   simp only [b8,ap,b1]
   exact j2.here rfl
 ·have ht':u7 s=false:=by simpa using ht
  rw [ht'] at e0
  simp only [b8,e0,ht']
  exact j2.here rfl
end Go.Proofs.YtmokcpfbeggigaaGreatDoor.Q
