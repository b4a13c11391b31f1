/- Contracts: words of a text, blanks at its ends. -/
import Derived.Test.YtmokcpfbeggigaaGreatDoorScriptListCh0quotesZ
namespace Go.Proofs.YtmokcpfbeggigaaGreatDoor.Q
open Go Go.AM
set_option linter.unusedSimpArgs false
set_option linter.unusedVariables false
set_option linter.unusedSectionVars false
def Y3 (c:UInt8):Bs->Bs
 | []=>[]
 | b::l=>if b=c then Y3 c l else b::l
def Q8 (c:UInt8):Bs->Bs
 | []=>[]
 | b::l=>if Q8 c l=[] then (if b=c then [] else [b]) else b::Q8 c l
theorem atf (c:UInt8):∀ l:Bs,Q8 c (l++[c])=Q8 c l
 | []=>by simp [Q8]
 | b::l=>by simp only [List.cons_append,Q8,atf c l]
theorem anH {b c:UInt8} (h:b ≠ c):∀ l:Bs,Q8 c (l++[b])=l++[b]
 | []=>by simp [Q8,h]
 | x::l=>by
   simp only [List.cons_append,Q8,anH h l]
   rw [if_neg (by simp)]
theorem aqr (c:UInt8):∀ s:Bs,Y3 c (Q8 c s)=Q8 c (Y3 c s)
 | []=>rfl
 | b::l=>by
   have ih:=aqr c l
   by_cases hb:b=c
   ·subst hb
    simp only [Q8,Y3,if_true]
    by_cases h:Q8 b l=[]
    ·rw [if_pos h]
     rw [h] at ih
     exact ih
    ·rw [if_neg h]
     simp only [Y3,if_true]
     exact ih
   ·simp only [Y3,if_neg hb,Q8]
    by_cases h:Q8 c l=[]
    ·rw [if_pos h]; simp [Y3,hb]
    ·rw [if_neg h]; simp [Y3,hb]
theorem apX (c:UInt8):∀ (s:Bs),∀ b ∈ Y3 c s,b ∈ s
 | [],b,h=>h
 | x::l,b,h=>by
   unfold Y3 at h
   split at h
   ·exact List.mem_cons_of_mem _ (apX c l b h)
   ·exact h
theorem aqH (c:UInt8):∀ (s:Bs),∀ b ∈ Q8 c s,b ∈ s
 | [],b,h=>h
 | x::l,b,h=>by
   unfold Q8 at h
   split at h
   ·split at h
    ·cases h
    ·simp at h; subst h; simp
   ·rcases List.mem_cons.1 h with rfl | h
    ·simp
    ·exact List.mem_cons_of_mem _ (aqH c l b h)
theorem aqS (c:UInt8):∀ (s:Bs),(Y3 c s).length<=s.length
 | []=>Nat.le_refl _
 | x::l=>by
   have:=aqS c l
   unfold Y3
   split
   ·simp; omega
   ·exact Nat.le_refl _
theorem amA (c:UInt8):∀ (s:Bs),(Q8 c s).length<=s.length
 | []=>Nat.le_refl _
 | x::l=>by
   have:=amA c l
   unfold Q8
   split
   ·split<;>simp
   ·simp; omega
def A5 (s:Bs):Bs:=Y3 32 (Q8 32 s)
theorem am7 (s:Bs):(A5 s).length<=s.length:=Nat.le_trans (aqS _ _) (amA _ _)
theorem ar4 (s:Bs):∀ b ∈ A5 s,b ∈ s:=fun b h=>aqH _ _ b (apX _ _ b h)
theorem ajZ {s t:Bs} (hs:A9 s=true) (h:∀ b ∈ t,b ∈ s) (hl:t.length<=s.length):A9 t=true:=by
 unfold A9 at hs ⊢
 simp only [Bool.and_eq_true,Bool.not_eq_true',List.any_eq_false,decide_eq_true_eq] at hs ⊢
 exact ⟨fun b hb=>hs.1 b (h b hb),by omega⟩
theorem atl {s:Bs} (hs:A9 s=true) (n:Nat):A9 (s.take n)=true:=ajZ hs (fun b h=>List.mem_of_mem_take h) (by simp; omega)
theorem anI {s:Bs} (hs:A9 s=true):s.length<=200:=by
 unfold A9 at hs
 simp only [Bool.and_eq_true,decide_eq_true_eq] at hs
 exact hs.2
def L5 (s:Bs) (i:Nat):Nat:=if h:i<s.length then (if N9 s[i].toNat=true then L5 s (i+1) else i) else i
termination_by s.length-i
theorem apT {s:Bs} {i:Nat} (h:i<s.length) (h1:N9 s[i].toNat=true):L5 s i=L5 s (i+1):=by
 conv=>lhs; rw [L5,dif_pos h,if_pos h1]
theorem aqv {s:Bs} {i:Nat} (h:i<s.length) (h1:¬ N9 s[i].toNat=true):L5 s i=i:=by
 rw [L5,dif_pos h,if_neg h1]
theorem aot {s:Bs} {i:Nat} (h:¬ i<s.length):L5 s i=i:=by
 rw [L5,dif_neg h]
theorem afE {s:Bs} {i:Nat}:i<=L5 s i/\(i<=s.length->L5 s i<=s.length):=by
 rw [L5]
 split
 ·split
  ·have:=afE (s:=s) (i:=i+1)
   exact ⟨by omega,fun _=>this.2 (by omega)⟩
  ·exact ⟨Nat.le_refl _,fun h=>h⟩
 ·exact ⟨Nat.le_refl _,fun h=>h⟩
termination_by s.length-i
def P8 (s:Bs) (i:Nat) (ap:Bool) (acc:List Bs):Option (List Bs) :=
 if h:i<s.length then
  if s[i]=32 then P8 s (i+1) true acc
  else if ap=false then none
  else if s[i]=34 then match qR (s.drop (i+1)) with | none=>none | some r=>P8 s (i+1+r.2) false (acc++[r.1])
  else if hk:L5 s i=i then none else P8 s (L5 s i) false (acc++[(s.drop i).take (L5 s i-i)])
 else some acc
termination_by s.length-i
decreasing_by
 ·omega
 ·omega
 ·have:=afE (s:=s) (i:=i); omega
section
variable {s:Bs} {i:Nat} {ap:Bool} {acc:List Bs}
theorem ap7 (h:¬ i<s.length):P8 s i ap acc=some acc:=by rw [P8,dif_neg h]
theorem amY (h:i<s.length) (h1:s[i]=32):P8 s i ap acc=P8 s (i+1) true acc:=by
 conv=>lhs; rw [P8,dif_pos h,if_pos h1]
theorem auh (h:i<s.length) (h1:s[i] ≠ 32):P8 s i false acc=none:=by
 rw [P8,dif_pos h,if_neg h1,if_pos rfl]
theorem axR (h:i<s.length) (h2:s[i]=34) (h3:qR (s.drop (i+1))=none):P8 s i true acc=none:=by
 rw [P8,dif_pos h,if_neg (by rw [h2]; decide),if_neg (by decide),if_pos h2]; simp only [h3]
theorem asu {r:Bs × Nat} (h:i<s.length) (h2:s[i]=34) (h3:qR (s.drop (i+1))=some r):P8 s i true acc=P8 s (i+1+r.2) false (acc++[r.1]):=by
 conv=>lhs; rw [P8,dif_pos h,if_neg (by rw [h2]; decide),if_neg (by decide),if_pos h2]
 simp only [h3]
theorem axN (h:i<s.length) (h1:s[i] ≠ 32) (h2:s[i] ≠ 34) (h3:L5 s i=i):P8 s i true acc=none:=by
 rw [P8,dif_pos h,if_neg h1,if_neg (by decide),if_neg h2,dif_pos h3]
theorem atB (h:i<s.length) (h1:s[i] ≠ 32) (h2:s[i] ≠ 34) (h3:L5 s i ≠ i):P8 s i true acc=P8 s (L5 s i) false (acc++[(s.drop i).take (L5 s i-i)]):=by
 conv=>lhs; rw [P8,dif_pos h,if_neg h1,if_neg (by decide),if_neg h2,dif_neg h3]
end
def wdX:Option (List Bs)->List V
 | some ws=>[.sl true (vT ws),.bool true]
 | none=>[.sl true [],.bool false]
theorem awg (s:Bs) (c:UInt8) (hs:s.length<=1000000000):qc I2 [.str s,.int .u8 (c.toNat:Int)]=some (.str (Q8 c s)):=by
 suffices h:l3 (cv I2 [.str s,.int .u8 (c.toNat:Int)] []) fun r=>r.1 = .str (Q8 c s) by
  obtain ⟨⟨v,H⟩,e,h⟩:=h
  have h:v=_:=h
  subst h
  exact y1 e (by simp only [b8]) rfl
 rw [aeR]
 refine l3.V3 (I:=fun n st H=>∃ t:Bs,n=t.length/\t.length<=s.length/\st=[.str t,.int .u8 (c.toNat:Int)]/\Q8 c t=Q8 c s)
  (P:=fun q vs H=>q=0/\vs=[.str (Q8 c s)]) (n:=s.length) ?_ ⟨s,rfl,by omega,rfl,rfl⟩ ?_
 ·rintro n st H ⟨t,rfl,ht,rfl,inv⟩
  rw [adh]
  rcases List.eq_nil_or_concat t with rfl | ⟨l,b,rfl⟩
  ·simp only [b8,List.length_nil,show ¬ (((0:Nat):Int)>0) from by omega]
   exact ⟨_,rfl,.inl ⟨0,rfl,rfl,by rw [<-inv]; rfl⟩⟩
  ·have hlen:(l.concat b).length=l.length+1:=by simp
   rw [hlen] at ht
   simp only [List.concat_eq_append] at hlen inv ⊢
   have a1:a8 (.int .i64) .sub (.int .i64 ((l.length+1:Nat):Int)) (.int .i64 1)=some (.int .i64 ((l.length:Nat):Int)):=adC _ (l.length+1) 1 (by omega) (by omega)
   have i1:=N8 (l++[b]) .i64 l.length (by simp)
   rw [List.getElem_concat_length (by rfl)] at i1
   have p1:=agp (l++[b]) .i64 l.length (by simp)
   rw [List.take_left] at p1
   by_cases hb:b=c
   ·subst hb
    simp only [b8,hlen,a1,i1,p1,show (((l.length+1:Nat):Int)>0) from by omega]
    exact ⟨_,rfl,.inr ⟨rfl,l.length,by omega,l,rfl,by omega,rfl,by rw [<-inv,atf]⟩⟩
   ·have hk:¬ ((b.toNat:Int)=(c.toNat:Int)):=fun e=>hb (UInt8.toNat_inj.1 (by omega))
    simp only [b8,hlen,a1,i1,hk,show (((l.length+1:Nat):Int)>0) from by omega]
    exact ⟨_,rfl,.inl ⟨0,rfl,rfl,by rw [<-inv,anH hb]⟩⟩
 rintro _ _ H ⟨rfl,rfl⟩
 simp only [b8]
 exact l3.here rfl
theorem awy (s:Bs) (c:UInt8) (hs:s.length<=1000000000):qc I7 [.str s,.int .u8 (c.toNat:Int)]=some (.str (Y3 c s)):=by
 suffices h:l3 (cv I7 [.str s,.int .u8 (c.toNat:Int)] []) fun r=>r.1 = .str (Y3 c s) by
  obtain ⟨⟨v,H⟩,e,h⟩:=h
  have h:v=_:=h
  subst h
  exact y1 e (by simp only [b8]) rfl
 rw [aeW]
 refine l3.V3 (I:=fun n st H=>∃ t:Bs,n=t.length/\t.length<=s.length/\st=[.str t,.int .u8 (c.toNat:Int)]/\Y3 c t=Y3 c s)
  (P:=fun q vs H=>q=0/\vs=[.str (Y3 c s)]) (n:=s.length) ?_ ⟨s,rfl,by omega,rfl,rfl⟩ ?_
 ·rintro n st H ⟨t,rfl,ht,rfl,inv⟩
  rw [adH]
  cases t with
  | nil =>
    simp only [b8,List.length_nil,show ¬ (((0:Nat):Int)>0) from by omega]
    exact ⟨_,rfl,.inl ⟨0,rfl,rfl,by rw [<-inv]; rfl⟩⟩
  | cons b l =>
    have i1:o7 (.str (b::l)) (.int .i64 0)=some (.int .u8 (b.toNat:Int)):=N8 (b::l) .i64 0 (by simp)
    have p1:y7 (.str (b::l)) (some (.int .i64 1)) none=some (.str l):=ade (b::l) .i64 1 (by simp)
    simp only [List.length_cons] at ht
    by_cases hb:b=c
    ·subst hb
     simp only [b8,List.length_cons,i1,p1,show (((l.length+1:Nat):Int)>0) from by omega]
     exact ⟨_,rfl,.inr ⟨rfl,l.length,by simp,l,rfl,by omega,rfl,by rw [<-inv]; simp [Y3]⟩⟩
    ·have hk:¬ ((b.toNat:Int)=(c.toNat:Int)):=fun e=>hb (UInt8.toNat_inj.1 (by omega))
     simp only [b8,List.length_cons,i1,hk,show (((l.length+1:Nat):Int)>0) from by omega]
     exact ⟨_,rfl,.inl ⟨0,rfl,rfl,by rw [<-inv]; simp [Y3,hb]⟩⟩
 rintro _ _ H ⟨rfl,rfl⟩
 simp only [b8]
 exact l3.here rfl
set_option maxRecDepth 100000 in
theorem anK (s:Bs) (hs:s.length<=1000000000):qc aaz [.str s,.str [32]]=some (.str (A5 s)):=by
 have e1:qc I2 [.str s,.int .u8 32]=_:=awg s 32 hs
 have e2:qc I7 [.str (Q8 32 s),.int .u8 32]=_:=awy (Q8 32 s) 32 (by have:=amA 32 s; omega)
 have i1:o7 (.str [32]) (.int .i64 0)=some (.int .u8 32):=rfl
 refine y1 (H:=[]) ?_ (by simp only [b8]) rfl
 show cv _ _ _=_
 rw [akx]
 by_cases h:s=[]
 ·subst h
  simp only [b8,decide_true]
  rfl
 ·have n2:¬ (([32]:Bs)=[]):=by decide
  simp only [b8,e1,e2,i1,h,n2,show ((32:Int)<128) from by decide]
  try rfl
theorem awf (s:Bs) (v1 v2:V) (H:VH) (hs:s.length<=1000) (j:Nat) (hj:j<=s.length):l3 (o6 aaN [.str s,v1,v2,.int .i64 (j:Nat)] H) fun r=>r=(0,[.str s,v1,v2,.int .i64 ((L5 s j:Nat):Int)],H):=by
 refine l3.loop (I:=fun n st G=>∃ i:Nat,n=s.length-i/\i<=s.length/\L5 s i=L5 s j/\G=H/\st=[.str s,v1,v2,.int .i64 (i:Nat)]) ?_ (s.length-j) _ H ⟨j,rfl,hj,rfl,rfl,rfl⟩
 rintro n st G ⟨i,rfl,hi,inv,rfl,rfl⟩
 rw [af2]
 by_cases hlt:i<s.length
 ·have i1:=N8 s .i64 i hlt
  have e1:=ahq (s[i].toNat:Int)
  have e2:a8 (.int .i64) .add (.int .i64 (i:Int)) (.int .i64 1)=some (.int .i64 ((i+1:Nat):Int)):=y4 _ i 1 (by omega)
  by_cases ha:N9 s[i].toNat=true
  ·rw [ha] at e1
   simp only [b8,i1,e1,e2,show ((i:Int)<(s.length:Int)) from by omega]
   exact l3.here ⟨s.length-(i+1),by omega,i+1,rfl,by omega,by rw [<-inv,apT hlt ha],rfl,rfl⟩
  ·have ha':N9 s[i].toNat=false:=by simpa using ha
   rw [ha'] at e1
   simp only [b8,i1,e1,show ((i:Int)<(s.length:Int)) from by omega]
   rw [<-inv,aqv hlt ha]
   exact l3.here rfl
 ·simp only [b8,show ¬ ((i:Int)<(s.length:Int)) from by omega]
  rw [<-inv,aot hlt]
  exact l3.here rfl
theorem an8 (s:Bs) (ht:A9 s=true):pc U6 [.str s]=some (.w5 (wdX (P8 s 0 true []))):=by
 have hs:=anI ht
 have e0:=abu s (by omega)
 rw [ht] at e0
 suffices h:l3 (cv U6 [.str s] []) fun r=>r.1 = .w5 (wdX (P8 s 0 true [])) by
  obtain ⟨⟨v,H⟩,e,h⟩:=h
  have h:v=_:=h
  subst h
  refine adY e (by simp only [b8]) ?_
  cases P8 s 0 true []<;>simp only [wdX,b8]
 rw [ahJ]
 simp only [b8,e0]
 refine l3.V3 (I:=fun n st H=>∃ (i:Nat) (ap:Bool) (acc:List Bs),n=s.length-i/\i<=s.length/\acc.length<=i/\st=[.str s,.sl true (vT acc),.int .i64 (i:Nat),.bool ap]/\P8 s i ap acc=P8 s 0 true [])
  (P:=fun q vs H=>(q=0/\∃ ws,P8 s 0 true []=some ws/\vs=[.sl true (vT ws)])\/(q=1/\P8 s 0 true []=none/\vs=[.sl true [],.bool false])) (n:=s.length) ?_ ⟨0,true,[],by omega,by omega,by simp,rfl,rfl⟩ ?_
 ·rintro n st H ⟨i,ap,acc,rfl,hi,hacc,rfl,inv⟩
  rw [afH]
  by_cases hlt:i<s.length
  ·have i1:=N8 s .i64 i hlt
   have h32 := @adX s[i] 32 (by omega)
   have h34 := @adX s[i] 34 (by omega)
   have e2:a8 (.int .i64) .add (.int .i64 (i:Int)) (.int .i64 1)=some (.int .i64 ((i+1:Nat):Int)):=y4 _ i 1 (by omega)
   have ap1:∀ t:Bs,I6 false 1 16 (vT acc) (.sl true [[.str t]])=some (.sl true (vT (acc++[t]))):=fun t=>by
    have:=ac2 1 16 (vT acc) true (vT [t]) (aan _) (aan _) (by rw [aai,aai]; simp; omega)
    rw [ahF] at this
    exact this
   by_cases h1:(s[i].toNat:Int)=32
   ·simp only [b8,i1,h1,e2,show ((i:Int)<(s.length:Int)) from by omega]
    exact ⟨_,rfl,.inr ⟨rfl,s.length-(i+1),by omega,i+1,true,acc,rfl,by omega,by omega,rfl,by rw [<-inv,amY hlt (h32.1 h1)]⟩⟩
   ·have n32:s[i] ≠ 32:=fun e=>h1 (h32.2 e)
    cases ap with
    | false =>
      simp only [b8,i1,h1,show ((i:Int)<(s.length:Int)) from by omega]
      exact ⟨_,rfl,.inl ⟨1,rfl,.inr ⟨rfl,by rw [<-inv,auh hlt n32],rfl⟩⟩⟩
    | true =>
      by_cases h2:(s[i].toNat:Int)=34
      ·have p2:=ade s .i64 i (by omega)
       have e3:=aoY (s.drop i) (by simp; omega)
       rw [List.drop_drop] at e3
       cases hq:qR (s.drop (i+1)) with
       | none =>
         rw [hq] at e3
         simp only [qT] at e3
         simp only [b8,i1,h1,h2,p2,e3,show ¬ ((34:Int)=32) from by decide,show ((i:Int)<(s.length:Int)) from by omega]
         exact ⟨_,rfl,.inl ⟨1,rfl,.inr ⟨rfl,by rw [<-inv,axR hlt (h34.1 h2) hq],rfl⟩⟩⟩
       | some r =>
         have hr:=alE (t:=r.1) (k:=r.2) hq
         rw [List.length_drop] at hr
         rw [hq] at e3
         simp only [qT] at e3
         have a2:a8 (.int .i64) .add (.int .i64 (i:Int)) (.int .i64 ((1+r.2:Nat):Int))=some (.int .i64 ((i+1+r.2:Nat):Int)):=by
          have:=y4 (.int .i64) i (1+r.2) (by omega)
          rw [show i+(1+r.2)=i+1+r.2 by omega] at this
          exact this
         simp only [b8,i1,h1,h2,p2,e3,a2,ap1,show ¬ ((34:Int)=32) from by decide,show ((i:Int)<(s.length:Int)) from by omega]
         exact ⟨_,rfl,.inr ⟨rfl,s.length-(i+1+r.2),by omega,i+1+r.2,false,acc++[r.1],rfl,by omega,by simp; omega,rfl,by rw [<-inv,asu hlt (h34.1 h2) hq]⟩⟩
      ·have n34:s[i] ≠ 34:=fun e=>h2 (h34.2 e)
       have hge:=afE (s:=s) (i:=i)
       simp only [b8,i1,h1,h2,show ((i:Int)<(s.length:Int)) from by omega]
       refine (awf s (.sl true (vT acc)) (.int .i64 (i:Nat)) H (by omega) i hi).bind ?_
       rintro _ rfl
       by_cases h3:L5 s i=i
       ·simp only [b8,h3]
        exact ⟨_,rfl,.inl ⟨1,rfl,.inr ⟨rfl,by rw [<-inv,axN hlt n32 n34 h3],rfl⟩⟩⟩
       ·have p3:=ari s .i64 .i64 i (L5 s i) hge.1 (hge.2 hi)
        simp only [b8,p3,ap1,show ¬ (((L5 s i:Nat):Int)=(i:Int)) from by omega]
        exact ⟨_,rfl,.inr ⟨rfl,s.length-L5 s i,by have:=hge.2 hi; omega,L5 s i,false,acc++[(s.drop i).take (L5 s i-i)],rfl,hge.2 hi,by simp; omega,rfl,by rw [<-inv,atB hlt n32 n34 h3]⟩⟩
  ·simp only [b8,show ¬ ((i:Int)<(s.length:Int)) from by omega]
   exact ⟨_,rfl,.inl ⟨0,rfl,.inl ⟨rfl,acc,by rw [<-inv,ap7 hlt],rfl⟩⟩⟩
 rintro _ _ H (⟨rfl,ws,h,rfl⟩ | ⟨rfl,h,rfl⟩)
 ·rw [h]
  simp only [b8]
  exact l3.here rfl
 ·rw [h]
  simp only [b8]
  exact l3.here rfl
theorem aap (n l d:Bs) (hn:n.length<=4000000) (hl:l.length<=4000000) (hd:d.length<=4000000):qc M4 [.agg [.str n,.str l,.str d]]=some (.bool (H8 n l d)):=by
 have e1:=abu n (by omega)
 have e2:=atk l (by omega)
 have e3:=arp d (by omega)
 refine y1 (H:=[]) ?_ (by simp only [b8]) (by simp only [abJ,T7])
 show cv _ _ _=_
 rw [agB]
 unfold H8
 by_cases h1:A9 n=true
 ·by_cases h2:n.length<=40
  ·by_cases h3:aaE l=true
   ·simp only [b8,e1,e2,e3,h1,h3,show ((n.length:Int)<=40) from by omega,h2]
    simp
   ·simp only [b8,e1,e2,e3,h1,h3,show ((n.length:Int)<=40) from by omega,h2]
    simp
  ·simp only [b8,e1,e2,e3,h1,show ¬ ((n.length:Int)<=40) from by omega,h2]
   simp
 ·simp only [b8,e1,e2,e3,h1]
  simp
def K4 (b:UInt8):Bs:=if b=34\/b=92 then [92,b] else [b]
def P9 (s:Bs):Bs:=[34]++(s.map K4).flatten++[34]
def D8 (s:Bs):Bs:=if A9 s=false then [] else if N7 s=true then s else P9 s
theorem ams:∀ s:Bs,((s.map K4).flatten).length<=2*s.length
 | []=>by simp
 | b::s=>by
   have:=ams s
   simp only [List.map_cons,List.flatten_cons,List.length_append,List.length_cons]
   have h1:(K4 b).length<=2:=by unfold K4; split<;>simp
   omega
theorem akj (s:Bs):(D8 s).length<=2*s.length+2:=by
 have:=ams s
 unfold D8 P9
 split
 ·simp
 ·split
  ·omega
  ·simp only [List.length_append,List.length_cons,List.length_nil]; omega
def quI (s:Bs) (i:Nat):Bs:=[34]++((s.take i).map K4).flatten
theorem acL {s:Bs} {i:Nat} (h:i<s.length):quI s (i+1)=quI s i++K4 s[i]:=by
 unfold quI
 rw [List.take_succ_eq_append_getElem h,List.map_append,List.flatten_append,List.append_assoc]
 simp only [List.map_cons,List.map_nil,List.flatten_cons,List.flatten_nil,List.append_nil]
theorem aiu (s:Bs) (i:Nat):(quI s i).length<=2*s.length+1:=by
 have:=ams (s.take i)
 have h2:(s.take i).length<=s.length:=by simp; omega
 unfold quI
 simp only [List.length_append,List.length_cons,List.length_nil]
 omega
theorem ap8 (s:Bs):quI s s.length++[34]=P9 s:=by unfold quI P9; rw [List.take_length]
theorem apy (s:Bs) (hs:s.length<=1000000):qc W5 [.str s]=some (.str (D8 s)):=by
 have e0:=abu s (by omega)
 have e1:=ajt s (by omega)
 suffices h:l3 (cv W5 [.str s] []) fun r=>r.1 = .str (D8 s) by
  obtain ⟨⟨v,H⟩,e,h⟩:=h
  have h:v=_:=h
  subst h
  exact y1 e (by simp only [b8]) rfl
 rw [ai6]
 unfold D8
 by_cases ht:A9 s=true
 ·rw [ht] at e0
  by_cases ha:N7 s=true
  ·rw [ha] at e1
   simp only [b8,e0,e1,ht,ha]
   exact l3.here rfl
  ·have ha':N7 s=false:=by simpa using ha
   rw [ha'] at e1
   have hB:([[V.int .u8 34]]:List (List V))=vB [34]:=rfl
   simp only [b8,e0,e1,ht,ha',hB]
   refine l3.V3 (I:=fun n st H=>∃ (i:Nat),n=s.length-i/\i<=s.length/\st=[.str s,.sl true (vB (quI s i)),.int .i64 (s.length:Nat),.int .i64 (i:Nat)])
    (P:=fun q vs H=>q=0/\vs=[.sl true (vB (quI s s.length))]) (n:=s.length) ?_ ⟨0,by omega,by omega,rfl⟩ ?_
   ·rintro n st H ⟨i,rfl,hi,rfl⟩
    rw [agQ]
    have hAl:=aiu s i
    by_cases hlt:i<s.length
    ·have i1:=N8 s .i64 i hlt
     have h34 := @adX s[i] 34 (by omega)
     have h92 := @adX s[i] 92 (by omega)
     have e2:a8 (.int .i64) .add (.int .i64 (i:Int)) (.int .i64 1)=some (.int .i64 ((i+1:Nat):Int)):=y4 _ i 1 (by omega)
     have ap:∀ (t:Bs) (b:UInt8),t.length<=(quI s i).length+1->I6 false 1 1 (vB t) (.sl true [[.int .u8 (b.toNat:Int)]])=some (.sl true (vB (t++[b]))):=fun t b ht=>by
      have:=ac2 1 1 (vB t) true (vB [b]) (acj _) (acj _) (by rw [abA,abA]; simp; omega)
      rw [show vB t++vB [b]=vB (t++[b]) from by simp [vB]] at this
      exact this
     have ap1:=ap (quI s i) s[i] (by omega)
     have ap2:I6 false 1 1 (vB (quI s i)) (.sl true [[.int .u8 92]])=some (.sl true (vB (quI s i++[92]))):=ap (quI s i) 92 (by omega)
     have ap3:=ap (quI s i++[92]) s[i] (by simp)
     by_cases h1:(s[i].toNat:Int)=34
     ·rw [h1] at ap3
      have hes:K4 s[i]=[92,s[i]]:=by unfold K4; rw [if_pos (.inl (h34.1 h1))]
      simp only [b8,i1,h1,ap2,ap3,e2,show ((i:Int)<(s.length:Int)) from by omega]
      exact ⟨_,rfl,.inr ⟨rfl,s.length-(i+1),by omega,i+1,rfl,by omega,by rw [acL hlt,hes]; simp⟩⟩
     ·by_cases h2:(s[i].toNat:Int)=92
      ·rw [h2] at ap3
       have hes:K4 s[i]=[92,s[i]]:=by unfold K4; rw [if_pos (.inr (h92.1 h2))]
       simp only [b8,i1,h1,h2,ap2,ap3,e2,show ¬ ((92:Int)=34) from by decide,show ((i:Int)<(s.length:Int)) from by omega]
       exact ⟨_,rfl,.inr ⟨rfl,s.length-(i+1),by omega,i+1,rfl,by omega,by rw [acL hlt,hes]; simp⟩⟩
      ·have hes:K4 s[i]=[s[i]]:=by unfold K4; rw [if_neg (fun h=>h.elim (fun e=>h1 (h34.2 e)) (fun e=>h2 (h92.2 e)))]
       simp only [b8,i1,h1,h2,ap1,e2,show ((i:Int)<(s.length:Int)) from by omega]
       exact ⟨_,rfl,.inr ⟨rfl,s.length-(i+1),by omega,i+1,rfl,by omega,by rw [acL hlt,hes]⟩⟩
    ·have:i=s.length:=by omega
     subst this
     simp only [b8,show ¬ ((s.length:Int)<(s.length:Int)) from by omega]
     exact ⟨_,rfl,.inl ⟨0,rfl,rfl,rfl⟩⟩
   rintro _ _ H ⟨rfl,rfl⟩
   have hel:=aiu s s.length
   have ap:I6 false 1 1 (vB (quI s s.length)) (.sl true (vB [34]))=some (.sl true (vB (P9 s))):=by
    have:=ac2 1 1 (vB (quI s s.length)) true (vB [34]) (acj _) (acj _) (by rw [abA,abA]; simp; omega)
    rw [show ∀ t,vB t++vB [34]=vB (t++[34]) from fun t=>by simp [vB],ap8] at this
    exact this
   have b1:abm (.sl true (vB (P9 s))) H=some (.str (P9 s)):=by simp only [abm,afP,Option.map_some]
   simp only [b8,ap,b1]
   exact l3.here rfl
 ·have ht':A9 s=false:=by simpa using ht
  rw [ht'] at e0
  simp only [b8,e0,ht']
  exact l3.here rfl
end Go.Proofs.YtmokcpfbeggigaaGreatDoor.Q
