/- Contracts: words of a text, blanks at its ends. -/
import Derived.Test.YtpbgpeojlfdpoaaGreatDoorScriptAddressCh0quotesZ
namespace Go.Proofs.YtpbgpeojlfdpoaaGreatDoor.Q
open Go Go.AM
set_option linter.unusedSimpArgs false
set_option linter.unusedVariables false
set_option linter.unusedSectionVars false
def S7 (c:UInt8):Bs->Bs
 | []=>[]
 | b::l=>if b=c then S7 c l else b::l
def S1 (c:UInt8):Bs->Bs
 | []=>[]
 | b::l=>if S1 c l=[] then (if b=c then [] else [b]) else b::S1 c l
theorem aoS (c:UInt8):∀ l:Bs,S1 c (l++[c])=S1 c l
 | []=>by simp [S1]
 | b::l=>by simp only [List.cons_append,S1,aoS c l]
theorem aoJ {b c:UInt8} (h:b ≠ c):∀ l:Bs,S1 c (l++[b])=l++[b]
 | []=>by simp [S1,h]
 | x::l=>by
   simp only [List.cons_append,S1,aoJ h l]
   rw [if_neg (by simp)]
theorem ap7 (c:UInt8):∀ s:Bs,S7 c (S1 c s)=S1 c (S7 c s)
 | []=>rfl
 | b::l=>by
   have ih:=ap7 c l
   by_cases hb:b=c
   ·subst hb
    simp only [S1,S7,if_true]
    by_cases h:S1 b l=[]
    ·rw [if_pos h]
     rw [h] at ih
     exact ih
    ·rw [if_neg h]
     simp only [S7,if_true]
     exact ih
   ·simp only [S7,if_neg hb,S1]
    by_cases h:S1 c l=[]
    ·rw [if_pos h]; simp [S7,hb]
    ·rw [if_neg h]; simp [S7,hb]
theorem ap9 (c:UInt8):∀ (s:Bs),∀ b ∈ S7 c s,b ∈ s
 | [],b,h=>h
 | x::l,b,h=>by
   unfold S7 at h
   split at h
   ·exact List.mem_cons_of_mem _ (ap9 c l b h)
   ·exact h
theorem ap5 (c:UInt8):∀ (s:Bs),∀ b ∈ S1 c s,b ∈ s
 | [],b,h=>h
 | x::l,b,h=>by
   unfold S1 at h
   split at h
   ·split at h
    ·cases h
    ·simp at h; subst h; simp
   ·rcases List.mem_cons.1 h with rfl | h
    ·simp
    ·exact List.mem_cons_of_mem _ (ap5 c l b h)
theorem alU (c:UInt8):∀ (s:Bs),(S7 c s).length<=s.length
 | []=>Nat.le_refl _
 | x::l=>by
   have:=alU c l
   unfold S7
   split
   ·simp; omega
   ·exact Nat.le_refl _
theorem amc (c:UInt8):∀ (s:Bs),(S1 c s).length<=s.length
 | []=>Nat.le_refl _
 | x::l=>by
   have:=amc c l
   unfold S1
   split
   ·split<;>simp
   ·simp; omega
def w9 (s:Bs):Bs:=S7 32 (S1 32 s)
theorem ahD (s:Bs):(w9 s).length<=s.length:=Nat.le_trans (alU _ _) (amc _ _)
theorem asJ (s:Bs):∀ b ∈ w9 s,b ∈ s:=fun b h=>ap5 _ _ b (ap9 _ _ b h)
theorem anj {s t:Bs} (hs:C2 s=true) (h:∀ b ∈ t,b ∈ s) (hl:t.length<=s.length):C2 t=true:=by
 unfold C2 at hs ⊢
 simp only [Bool.and_eq_true,Bool.not_eq_true',List.any_eq_false,decide_eq_true_eq] at hs ⊢
 exact ⟨fun b hb=>hs.1 b (h b hb),by omega⟩
theorem ary {s:Bs} (hs:C2 s=true) (n:Nat):C2 (s.take n)=true:=anj hs (fun b h=>List.mem_of_mem_take h) (by simp; omega)
theorem aje {s:Bs} (hs:C2 s=true):s.length<=200:=by
 unfold C2 at hs
 simp only [Bool.and_eq_true,decide_eq_true_eq] at hs
 exact hs.2
def E8 (s:Bs) (i:Nat):Nat:=if h:i<s.length then (if O9 s[i].toNat=true then E8 s (i+1) else i) else i
termination_by s.length-i
theorem apB {s:Bs} {i:Nat} (h:i<s.length) (h1:O9 s[i].toNat=true):E8 s i=E8 s (i+1):=by
 conv=>lhs; rw [E8,dif_pos h,if_pos h1]
theorem apC {s:Bs} {i:Nat} (h:i<s.length) (h1:¬ O9 s[i].toNat=true):E8 s i=i:=by
 rw [E8,dif_pos h,if_neg h1]
theorem anY {s:Bs} {i:Nat} (h:¬ i<s.length):E8 s i=i:=by
 rw [E8,dif_neg h]
theorem adR {s:Bs} {i:Nat}:i<=E8 s i/\(i<=s.length->E8 s i<=s.length):=by
 rw [E8]
 split
 ·split
  ·have:=adR (s:=s) (i:=i+1)
   exact ⟨by omega,fun _=>this.2 (by omega)⟩
  ·exact ⟨Nat.le_refl _,fun h=>h⟩
 ·exact ⟨Nat.le_refl _,fun h=>h⟩
termination_by s.length-i
def F4 (s:Bs) (i:Nat) (ap:Bool) (acc:List Bs):Option (List Bs) :=
 if h:i<s.length then
  if s[i]=32 then F4 s (i+1) true acc
  else if ap=false then none
  else if s[i]=34 then match qR (s.drop (i+1)) with | none=>none | some r=>F4 s (i+1+r.2) false (acc++[r.1])
  else if hk:E8 s i=i then none else F4 s (E8 s i) false (acc++[(s.drop i).take (E8 s i-i)])
 else some acc
termination_by s.length-i
decreasing_by
 ·omega
 ·omega
 ·have:=adR (s:=s) (i:=i); omega
section
variable {s:Bs} {i:Nat} {ap:Bool} {acc:List Bs}
theorem aia (h:¬ i<s.length):F4 s i ap acc=some acc:=by rw [F4,dif_neg h]
theorem aeW (h:i<s.length) (h1:s[i]=32):F4 s i ap acc=F4 s (i+1) true acc:=by
 conv=>lhs; rw [F4,dif_pos h,if_pos h1]
theorem ajH (h:i<s.length) (h1:s[i] ≠ 32):F4 s i false acc=none:=by
 rw [F4,dif_pos h,if_neg h1,if_pos rfl]
theorem asW (h:i<s.length) (h2:s[i]=34) (h3:qR (s.drop (i+1))=none):F4 s i true acc=none:=by
 rw [F4,dif_pos h,if_neg (by rw [h2]; decide),if_neg (by decide),if_pos h2]; simp only [h3]
theorem art {r:Bs × Nat} (h:i<s.length) (h2:s[i]=34) (h3:qR (s.drop (i+1))=some r):F4 s i true acc=F4 s (i+1+r.2) false (acc++[r.1]):=by
 conv=>lhs; rw [F4,dif_pos h,if_neg (by rw [h2]; decide),if_neg (by decide),if_pos h2]
 simp only [h3]
theorem ar4 (h:i<s.length) (h1:s[i] ≠ 32) (h2:s[i] ≠ 34) (h3:E8 s i=i):F4 s i true acc=none:=by
 rw [F4,dif_pos h,if_neg h1,if_neg (by decide),if_neg h2,dif_pos h3]
theorem asf (h:i<s.length) (h1:s[i] ≠ 32) (h2:s[i] ≠ 34) (h3:E8 s i ≠ i):F4 s i true acc=F4 s (E8 s i) false (acc++[(s.drop i).take (E8 s i-i)]):=by
 conv=>lhs; rw [F4,dif_pos h,if_neg h1,if_neg (by decide),if_neg h2,dif_neg h3]
theorem ak9 (h:¬ (i<s.length)\/∃ h:i<s.length,s[i]=32):F4 s i false acc=F4 s i true acc:=by
 rcases h with h | ⟨h,h1⟩
 ·rw [aia h,aia h]
 ·rw [aeW h h1,aeW h h1]
end
def wdX:Option (List Bs)->List V
 | some ws=>[.sl true (vT ws),.bool true]
 | none=>[.sl true [],.bool false]
theorem avq (s:Bs) (c:UInt8) (hs:s.length<=1000000000):qc F8 [.str s,.int .u8 (c.toNat:Int)]=some (.str (S1 c s)):=by
 suffices h:j9 (cv F8 [.str s,.int .u8 (c.toNat:Int)] []) fun r=>r.1 = .str (S1 c s) by
  obtain ⟨⟨v,H⟩,e,h⟩:=h
  have h:v=_:=h
  subst h
  exact w8 e (by simp only [b8]) rfl
 rw [adU]
 refine j9.P5 (I:=fun n st H=>∃ t:Bs,n=t.length/\t.length<=s.length/\st=[.str t,.int .u8 (c.toNat:Int)]/\S1 c t=S1 c s)
  (P:=fun q vs H=>q=0/\vs=[.str (S1 c s)]) (n:=s.length) ?_ ⟨s,rfl,by omega,rfl,rfl⟩ ?_
 ·rintro n st H ⟨t,rfl,ht,rfl,inv⟩
  rw [ac8]
  rcases List.eq_nil_or_concat t with rfl | ⟨l,b,rfl⟩
  ·simp only [b8,List.length_nil,show ¬ (((0:Nat):Int)>0) from by omega]
   exact ⟨_,rfl,.inl ⟨0,rfl,rfl,by rw [<-inv]; rfl⟩⟩
  ·have hlen:(l.concat b).length=l.length+1:=by simp
   rw [hlen] at ht
   simp only [List.concat_eq_append] at hlen inv ⊢
   have a1:a8 (.int .i64) .sub (.int .i64 ((l.length+1:Nat):Int)) (.int .i64 1)=some (.int .i64 ((l.length:Nat):Int)):=aav _ (l.length+1) 1 (by omega) (by omega)
   have i1:=D2 (l++[b]) .i64 l.length (by simp)
   rw [List.getElem_concat_length (by rfl)] at i1
   have p1:=abO (l++[b]) .i64 l.length (by simp)
   rw [List.take_left] at p1
   by_cases hb:b=c
   ·subst hb
    simp only [b8,hlen,a1,i1,p1,show (((l.length+1:Nat):Int)>0) from by omega]
    exact ⟨_,rfl,.inr ⟨rfl,l.length,by omega,l,rfl,by omega,rfl,by rw [<-inv,aoS]⟩⟩
   ·have hk:¬ ((b.toNat:Int)=(c.toNat:Int)):=fun e=>hb (UInt8.toNat_inj.1 (by omega))
    simp only [b8,hlen,a1,i1,hk,show (((l.length+1:Nat):Int)>0) from by omega]
    exact ⟨_,rfl,.inl ⟨0,rfl,rfl,by rw [<-inv,aoJ hb]⟩⟩
 rintro _ _ H ⟨rfl,rfl⟩
 simp only [b8]
 exact j9.here rfl
theorem avr (s:Bs) (c:UInt8) (hs:s.length<=1000000000):qc G7 [.str s,.int .u8 (c.toNat:Int)]=some (.str (S7 c s)):=by
 suffices h:j9 (cv G7 [.str s,.int .u8 (c.toNat:Int)] []) fun r=>r.1 = .str (S7 c s) by
  obtain ⟨⟨v,H⟩,e,h⟩:=h
  have h:v=_:=h
  subst h
  exact w8 e (by simp only [b8]) rfl
 rw [aew]
 refine j9.P5 (I:=fun n st H=>∃ t:Bs,n=t.length/\t.length<=s.length/\st=[.str t,.int .u8 (c.toNat:Int)]/\S7 c t=S7 c s)
  (P:=fun q vs H=>q=0/\vs=[.str (S7 c s)]) (n:=s.length) ?_ ⟨s,rfl,by omega,rfl,rfl⟩ ?_
 ·rintro n st H ⟨t,rfl,ht,rfl,inv⟩
  rw [adn]
  cases t with
  | nil =>
    simp only [b8,List.length_nil,show ¬ (((0:Nat):Int)>0) from by omega]
    exact ⟨_,rfl,.inl ⟨0,rfl,rfl,by rw [<-inv]; rfl⟩⟩
  | cons b l =>
    have i1:l4 (.str (b::l)) (.int .i64 0)=some (.int .u8 (b.toNat:Int)):=D2 (b::l) .i64 0 (by simp)
    have p1:w4 (.str (b::l)) (some (.int .i64 1)) none=some (.str l):=abk (b::l) .i64 1 (by simp)
    simp only [List.length_cons] at ht
    by_cases hb:b=c
    ·subst hb
     simp only [b8,List.length_cons,i1,p1,show (((l.length+1:Nat):Int)>0) from by omega]
     exact ⟨_,rfl,.inr ⟨rfl,l.length,by simp,l,rfl,by omega,rfl,by rw [<-inv]; simp [S7]⟩⟩
    ·have hk:¬ ((b.toNat:Int)=(c.toNat:Int)):=fun e=>hb (UInt8.toNat_inj.1 (by omega))
     simp only [b8,List.length_cons,i1,hk,show (((l.length+1:Nat):Int)>0) from by omega]
     exact ⟨_,rfl,.inl ⟨0,rfl,rfl,by rw [<-inv]; simp [S7,hb]⟩⟩
 rintro _ _ H ⟨rfl,rfl⟩
 simp only [b8]
 exact j9.here rfl
set_option maxRecDepth 100000 in
theorem atJ (s:Bs) (hs:s.length<=1000000000):qc abX [.str s,.str [32]]=some (.str (w9 s)):=by
 have e1:qc F8 [.str s,.int .u8 32]=_:=avq s 32 hs
 have e2:qc G7 [.str (S1 32 s),.int .u8 32]=_:=avr (S1 32 s) 32 (by have:=amc 32 s; omega)
 have i1:l4 (.str [32]) (.int .i64 0)=some (.int .u8 32):=rfl
 refine w8 (H:=[]) ?_ (by simp only [b8]) rfl
 show cv _ _ _=_
 rw [akZ]
 by_cases h:s=[]
 ·subst h
  simp only [b8,decide_true]
  rfl
 ·have n2:¬ (([32]:Bs)=[]):=by decide
  simp only [b8,e1,e2,i1,h,n2,show ((32:Int)<128) from by decide]
  try rfl
theorem avB (s:Bs) (v1 v2:V) (H:VH) (hs:s.length<=1000) (j:Nat) (hj:j<=s.length):j9 (n7 aap [.str s,v1,v2,.int .i64 (j:Nat)] H) fun r=>r=(0,[.str s,v1,v2,.int .i64 ((E8 s j:Nat):Int)],H):=by
 refine j9.loop (I:=fun n st G=>∃ i:Nat,n=s.length-i/\i<=s.length/\E8 s i=E8 s j/\G=H/\st=[.str s,v1,v2,.int .i64 (i:Nat)]) ?_ (s.length-j) _ H ⟨j,rfl,hj,rfl,rfl,rfl⟩
 rintro n st G ⟨i,rfl,hi,inv,rfl,rfl⟩
 rw [afz]
 by_cases hlt:i<s.length
 ·have i1:=D2 s .i64 i hlt
  have e1:=ahM (s[i].toNat:Int)
  have e2:a8 (.int .i64) .add (.int .i64 (i:Int)) (.int .i64 1)=some (.int .i64 ((i+1:Nat):Int)):=y1 _ i 1 (by omega)
  by_cases ha:O9 s[i].toNat=true
  ·rw [ha] at e1
   simp only [b8,i1,e1,e2,show ((i:Int)<(s.length:Int)) from by omega]
   exact j9.here ⟨s.length-(i+1),by omega,i+1,rfl,by omega,by rw [<-inv,apB hlt ha],rfl,rfl⟩
  ·have ha':O9 s[i].toNat=false:=by simpa using ha
   rw [ha'] at e1
   simp only [b8,i1,e1,show ((i:Int)<(s.length:Int)) from by omega]
   rw [<-inv,apC hlt ha]
   exact j9.here rfl
 ·simp only [b8,show ¬ ((i:Int)<(s.length:Int)) from by omega]
  rw [<-inv,anY hlt]
  exact j9.here rfl
theorem aoC (s:Bs) (ht:C2 s=true):pc T4 [.str s]=some (.o7 (wdX (F4 s 0 true []))):=by
 have hs:=aje ht
 have e0:=acN s (by omega)
 rw [ht] at e0
 suffices h:j9 (cv T4 [.str s] []) fun r=>r.1 = .o7 (wdX (F4 s 0 true [])) by
  obtain ⟨⟨v,H⟩,e,h⟩:=h
  have h:v=_:=h
  subst h
  refine acD e (by simp only [b8]) ?_
  cases F4 s 0 true []<;>simp only [wdX,b8]
 rw [ag1]
 simp only [b8,e0]
 refine j9.P5 (I:=fun n st H=>∃ (i:Nat) (ap:Bool) (acc:List Bs),n=s.length-i/\i<=s.length/\acc.length<=i/\st=[.str s,.sl true (vT acc),.int .i64 (i:Nat),.bool ap]/\F4 s i ap acc=F4 s 0 true [])
  (P:=fun q vs H=>(q=0/\∃ ws,F4 s 0 true []=some ws/\vs=[.sl true (vT ws)])\/(q=1/\F4 s 0 true []=none/\vs=[.sl true [],.bool false])) (n:=s.length) ?_ ⟨0,true,[],by omega,by omega,by simp,rfl,rfl⟩ ?_
 ·rintro n st H ⟨i,ap,acc,rfl,hi,hacc,rfl,inv⟩
  rw [afp]
  by_cases hlt:i<s.length
  ·have i1:=D2 s .i64 i hlt
   have h32 := @U9 s[i] 32 (by omega)
   have h34 := @U9 s[i] 34 (by omega)
   have e2:a8 (.int .i64) .add (.int .i64 (i:Int)) (.int .i64 1)=some (.int .i64 ((i+1:Nat):Int)):=y1 _ i 1 (by omega)
   have ap1:∀ t:Bs,L7 false 1 16 (vT acc) (.sl true [[.str t]])=some (.sl true (vT (acc++[t]))):=fun t=>by
    have:=af5 1 16 (vT acc) true (vT [t]) (abc _) (abc _) (by rw [abd,abd]; simp; omega)
    rw [akw] at this
    exact this
   by_cases h1:(s[i].toNat:Int)=32
   ·simp only [b8,i1,h1,e2,show ((i:Int)<(s.length:Int)) from by omega]
    exact ⟨_,rfl,.inr ⟨rfl,s.length-(i+1),by omega,i+1,true,acc,rfl,by omega,by omega,rfl,by rw [<-inv,aeW hlt (h32.1 h1)]⟩⟩
   ·have n32:s[i] ≠ 32:=fun e=>h1 (h32.2 e)
    cases ap with
    | false =>
      simp only [b8,i1,h1,show ((i:Int)<(s.length:Int)) from by omega]
      exact ⟨_,rfl,.inl ⟨1,rfl,.inr ⟨rfl,by rw [<-inv,ajH hlt n32],rfl⟩⟩⟩
    | true =>
      by_cases h2:(s[i].toNat:Int)=34
      ·have p2:=abk s .i64 i (by omega)
       have e3:=ano (s.drop i) (by simp; omega)
       rw [List.drop_drop] at e3
       cases hq:qR (s.drop (i+1)) with
       | none =>
         rw [hq] at e3
         simp only [qT] at e3
         simp only [b8,i1,h1,h2,p2,e3,show ¬ ((34:Int)=32) from by decide,show ((i:Int)<(s.length:Int)) from by omega]
         exact ⟨_,rfl,.inl ⟨1,rfl,.inr ⟨rfl,by rw [<-inv,asW hlt (h34.1 h2) hq],rfl⟩⟩⟩
       | some r =>
         have hr:=agb (t:=r.1) (k:=r.2) hq
         rw [List.length_drop] at hr
         rw [hq] at e3
         simp only [qT] at e3
         have a2:a8 (.int .i64) .add (.int .i64 (i:Int)) (.int .i64 ((1+r.2:Nat):Int))=some (.int .i64 ((i+1+r.2:Nat):Int)):=by
          have:=y1 (.int .i64) i (1+r.2) (by omega)
          rw [show i+(1+r.2)=i+1+r.2 by omega] at this
          exact this
         simp only [b8,i1,h1,h2,p2,e3,a2,ap1,show ¬ ((34:Int)=32) from by decide,show ((i:Int)<(s.length:Int)) from by omega]
         exact ⟨_,rfl,.inr ⟨rfl,s.length-(i+1+r.2),by omega,i+1+r.2,false,acc++[r.1],rfl,by omega,by simp; omega,rfl,by rw [<-inv,art hlt (h34.1 h2) hq]⟩⟩
      ·have n34:s[i] ≠ 34:=fun e=>h2 (h34.2 e)
       have hge:=adR (s:=s) (i:=i)
       simp only [b8,i1,h1,h2,show ((i:Int)<(s.length:Int)) from by omega]
       refine (avB s (.sl true (vT acc)) (.int .i64 (i:Nat)) H (by omega) i hi).bind ?_
       rintro _ rfl
       by_cases h3:E8 s i=i
       ·simp only [b8,h3]
        exact ⟨_,rfl,.inl ⟨1,rfl,.inr ⟨rfl,by rw [<-inv,ar4 hlt n32 n34 h3],rfl⟩⟩⟩
       ·have p3:=agx s .i64 .i64 i (E8 s i) hge.1 (hge.2 hi)
        simp only [b8,p3,ap1,show ¬ (((E8 s i:Nat):Int)=(i:Int)) from by omega]
        exact ⟨_,rfl,.inr ⟨rfl,s.length-E8 s i,by have:=hge.2 hi; omega,E8 s i,false,acc++[(s.drop i).take (E8 s i-i)],rfl,hge.2 hi,by simp; omega,rfl,by rw [<-inv,asf hlt n32 n34 h3]⟩⟩
  ·simp only [b8,show ¬ ((i:Int)<(s.length:Int)) from by omega]
   exact ⟨_,rfl,.inl ⟨0,rfl,.inl ⟨rfl,acc,by rw [<-inv,aia hlt],rfl⟩⟩⟩
 rintro _ _ H (⟨rfl,ws,h,rfl⟩ | ⟨rfl,h,rfl⟩)
 ·rw [h]
  simp only [b8]
  exact j9.here rfl
 ·rw [h]
  simp only [b8]
  exact j9.here rfl
theorem acg (n l d:Bs) (hn:n.length<=4000000) (hl:l.length<=4000000) (hd:d.length<=4000000):qc P0 [.agg [.str n,.str l,.str d]]=some (.bool (G4 n l d)):=by
 have e1:=acN n (by omega)
 have e2:=ar5 l (by omega)
 have e3:=aq3 d (by omega)
 refine w8 (H:=[]) ?_ (by simp only [b8]) (by simp only [abl,R8])
 show cv _ _ _=_
 rw [agD]
 unfold G4
 by_cases h1:C2 n=true
 ·by_cases h2:n.length<=40
  ·by_cases h3:aef l=true
   ·simp only [b8,e1,e2,e3,h1,h3,show ((n.length:Int)<=40) from by omega,h2]
    simp
   ·simp only [b8,e1,e2,e3,h1,h3,show ((n.length:Int)<=40) from by omega,h2]
    simp
  ·simp only [b8,e1,e2,e3,h1,show ¬ ((n.length:Int)<=40) from by omega,h2]
   simp
 ·simp only [b8,e1,e2,e3,h1]
  simp
def W1 (b:UInt8):Bs:=if b=34\/b=92 then [92,b] else [b]
def afi (s:Bs):Bs:=[34]++(s.map W1).flatten++[34]
def Z5 (s:Bs):Bs:=if C2 s=false then [] else if R9 s=true then s else afi s
theorem al7:∀ s:Bs,((s.map W1).flatten).length<=2*s.length
 | []=>by simp
 | b::s=>by
   have:=al7 s
   simp only [List.map_cons,List.flatten_cons,List.length_append,List.length_cons]
   have h1:(W1 b).length<=2:=by unfold W1; split<;>simp
   omega
theorem aji (s:Bs):(Z5 s).length<=2*s.length+2:=by
 have:=al7 s
 unfold Z5 afi
 split
 ·simp
 ·split
  ·omega
  ·simp only [List.length_append,List.length_cons,List.length_nil]; omega
def quI (s:Bs) (i:Nat):Bs:=[34]++((s.take i).map W1).flatten
theorem acq {s:Bs} {i:Nat} (h:i<s.length):quI s (i+1)=quI s i++W1 s[i]:=by
 unfold quI
 rw [List.take_succ_eq_append_getElem h,List.map_append,List.flatten_append,List.append_assoc]
 simp only [List.map_cons,List.map_nil,List.flatten_cons,List.flatten_nil,List.append_nil]
theorem ah7 (s:Bs) (i:Nat):(quI s i).length<=2*s.length+1:=by
 have:=al7 (s.take i)
 have h2:(s.take i).length<=s.length:=by simp; omega
 unfold quI
 simp only [List.length_append,List.length_cons,List.length_nil]
 omega
theorem aqk (s:Bs):quI s s.length++[34]=afi s:=by unfold quI afi; rw [List.take_length]
theorem ao2 (s:Bs) (hs:s.length<=1000000):qc V5 [.str s]=some (.str (Z5 s)):=by
 have e0:=acN s (by omega)
 have e1:=aiX s (by omega)
 suffices h:j9 (cv V5 [.str s] []) fun r=>r.1 = .str (Z5 s) by
  obtain ⟨⟨v,H⟩,e,h⟩:=h
  have h:v=_:=h
  subst h
  exact w8 e (by simp only [b8]) rfl
 rw [aiO]
 unfold Z5
 by_cases ht:C2 s=true
 ·rw [ht] at e0
  by_cases ha:R9 s=true
  ·rw [ha] at e1
   simp only [b8,e0,e1,ht,ha]
   exact j9.here rfl
  ·have ha':R9 s=false:=by simpa using ha
   rw [ha'] at e1
   have hB:([[V.int .u8 34]]:List (List V))=vB [34]:=rfl
   simp only [b8,e0,e1,ht,ha',hB]
   refine j9.P5 (I:=fun n st H=>∃ (i:Nat),n=s.length-i/\i<=s.length/\st=[.str s,.sl true (vB (quI s i)),.int .i64 (s.length:Nat),.int .i64 (i:Nat)])
    (P:=fun q vs H=>q=0/\vs=[.sl true (vB (quI s s.length))]) (n:=s.length) ?_ ⟨0,by omega,by omega,rfl⟩ ?_
   ·rintro n st H ⟨i,rfl,hi,rfl⟩
    rw [agp]
    have hAl:=ah7 s i
    by_cases hlt:i<s.length
    ·have i1:=D2 s .i64 i hlt
     have h34 := @U9 s[i] 34 (by omega)
     have h92 := @U9 s[i] 92 (by omega)
     have e2:a8 (.int .i64) .add (.int .i64 (i:Int)) (.int .i64 1)=some (.int .i64 ((i+1:Nat):Int)):=y1 _ i 1 (by omega)
     have ap:∀ (t:Bs) (b:UInt8),t.length<=(quI s i).length+1->L7 false 1 1 (vB t) (.sl true [[.int .u8 (b.toNat:Int)]])=some (.sl true (vB (t++[b]))):=fun t b ht=>by
      have:=af5 1 1 (vB t) true (vB [b]) (abL _) (abL _) (by rw [aa6,aa6]; simp; omega)
      rw [show vB t++vB [b]=vB (t++[b]) from by simp [vB]] at this
      exact this
     have ap1:=ap (quI s i) s[i] (by omega)
     have ap2:L7 false 1 1 (vB (quI s i)) (.sl true [[.int .u8 92]])=some (.sl true (vB (quI s i++[92]))):=ap (quI s i) 92 (by omega)
     have ap3:=ap (quI s i++[92]) s[i] (by simp)
     by_cases h1:(s[i].toNat:Int)=34
     ·rw [h1] at ap3
      have hes:W1 s[i]=[92,s[i]]:=by unfold W1; rw [if_pos (.inl (h34.1 h1))]
      simp only [b8,i1,h1,ap2,ap3,e2,show ((i:Int)<(s.length:Int)) from by omega]
      exact ⟨_,rfl,.inr ⟨rfl,s.length-(i+1),by omega,i+1,rfl,by omega,by rw [acq hlt,hes]; simp⟩⟩
     ·by_cases h2:(s[i].toNat:Int)=92
      ·rw [h2] at ap3
       have hes:W1 s[i]=[92,s[i]]:=by unfold W1; rw [if_pos (.inr (h92.1 h2))]
       simp only [b8,i1,h1,h2,ap2,ap3,e2,show ¬ ((92:Int)=34) from by decide,show ((i:Int)<(s.length:Int)) from by omega]
       exact ⟨_,rfl,.inr ⟨rfl,s.length-(i+1),by omega,i+1,rfl,by omega,by rw [acq hlt,hes]; simp⟩⟩
      ·have hes:W1 s[i]=[s[i]]:=by unfold W1; rw [if_neg (fun h=>h.elim (fun e=>h1 (h34.2 e)) (fun e=>h2 (h92.2 e)))]
       simp only [b8,i1,h1,h2,ap1,e2,show ((i:Int)<(s.length:Int)) from by omega]
       exact ⟨_,rfl,.inr ⟨rfl,s.length-(i+1),by omega,i+1,rfl,by omega,by rw [acq hlt,hes]⟩⟩
    ·have:i=s.length:=by omega
     subst this
     simp only [b8,show ¬ ((s.length:Int)<(s.length:Int)) from by omega]
     exact ⟨_,rfl,.inl ⟨0,rfl,rfl,rfl⟩⟩
   rintro _ _ H ⟨rfl,rfl⟩
   have hel:=ah7 s s.length
   have ap:L7 false 1 1 (vB (quI s s.length)) (.sl true (vB [34]))=some (.sl true (vB (afi s))):=by
    have:=af5 1 1 (vB (quI s s.length)) true (vB [34]) (abL _) (abL _) (by rw [aa6,aa6]; simp; omega)
    rw [show ∀ t,vB t++vB [34]=vB (t++[34]) from fun t=>by simp [vB],aqk] at this
    exact this
   have b1:aao (.sl true (vB (afi s))) H=some (.str (afi s)):=by simp only [aao,afx,Option.map_some]
   simp only [b8,ap,b1]
   exact j9.here rfl
 ·have ht':C2 s=false:=by simpa using ht
  rw [ht'] at e0
  simp only [b8,e0,ht']
  exact j9.here rfl
end Go.Proofs.YtpbgpeojlfdpoaaGreatDoor.Q
