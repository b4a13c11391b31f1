/- Contracts: words of a text, blanks at its ends. -/
import Derived.Test.YtmokcpfbeggigaaGreatDoorScriptNameCh0quotesZ
namespace Go.Proofs.YtmokcpfbeggigaaGreatDoor.Q
open Go Go.AM
set_option linter.unusedSimpArgs false
set_option linter.unusedVariables false
set_option linter.unusedSectionVars false
def S4 (c:UInt8):Bs->Bs
 | []=>[]
 | b::l=>if b=c then S4 c l else b::l
def Q9 (c:UInt8):Bs->Bs
 | []=>[]
 | b::l=>if Q9 c l=[] then (if b=c then [] else [b]) else b::Q9 c l
theorem als (c:UInt8):∀ l:Bs,Q9 c (l++[c])=Q9 c l
 | []=>by simp [Q9]
 | b::l=>by simp only [List.cons_append,Q9,als c l]
theorem amH {b c:UInt8} (h:b ≠ c):∀ l:Bs,Q9 c (l++[b])=l++[b]
 | []=>by simp [Q9,h]
 | x::l=>by
   simp only [List.cons_append,Q9,amH h l]
   rw [if_neg (by simp)]
theorem anw (c:UInt8):∀ s:Bs,S4 c (Q9 c s)=Q9 c (S4 c s)
 | []=>rfl
 | b::l=>by
   have ih:=anw c l
   by_cases hb:b=c
   ·subst hb
    simp only [Q9,S4,if_true]
    by_cases h:Q9 b l=[]
    ·rw [if_pos h]
     rw [h] at ih
     exact ih
    ·rw [if_neg h]
     simp only [S4,if_true]
     exact ih
   ·simp only [S4,if_neg hb,Q9]
    by_cases h:Q9 c l=[]
    ·rw [if_pos h]; simp [S4,hb]
    ·rw [if_neg h]; simp [S4,hb]
theorem an1 (c:UInt8):∀ (s:Bs),(S4 c s).length<=s.length
 | []=>Nat.le_refl _
 | x::l=>by
   have:=an1 c l
   unfold S4
   split
   ·simp; omega
   ·exact Nat.le_refl _
theorem aoa (c:UInt8):∀ (s:Bs),(Q9 c s).length<=s.length
 | []=>Nat.le_refl _
 | x::l=>by
   have:=aoa c l
   unfold Q9
   split
   ·split<;>simp
   ·simp; omega
def agW (s:Bs):Bs:=S4 32 (Q9 32 s)
section
variable {s:Bs} {i:Nat} {ap:Bool} {acc:List Bs}
end
theorem atc (s:Bs) (c:UInt8) (hs:s.length<=1000000000):qc E3 [.str s,.int .u8 (c.toNat:Int)]=some (.str (Q9 c s)):=by
 suffices h:k9 (cv E3 [.str s,.int .u8 (c.toNat:Int)] []) fun r=>r.1 = .str (Q9 c s) by
  obtain ⟨⟨v,H⟩,e,h⟩:=h
  have h:v=_:=h
  subst h
  exact y5 e (by simp only [j0]) rfl
 rw [adi]
 refine k9.P6 (I:=fun n st H=>∃ t:Bs,n=t.length/\t.length<=s.length/\st=[.str t,.int .u8 (c.toNat:Int)]/\Q9 c t=Q9 c s)
  (P:=fun q vs H=>q=0/\vs=[.str (Q9 c s)]) (n:=s.length) ?_ ⟨s,rfl,by omega,rfl,rfl⟩ ?_
 ·rintro n st H ⟨t,rfl,ht,rfl,inv⟩
  rw [ab9]
  rcases List.eq_nil_or_concat t with rfl | ⟨l,b,rfl⟩
  ·simp only [j0,List.length_nil,show ¬ (((0:Nat):Int)>0) from by omega]
   exact ⟨_,rfl,.inl ⟨0,rfl,rfl,by rw [<-inv]; rfl⟩⟩
  ·have hlen:(l.concat b).length=l.length+1:=by simp
   rw [hlen] at ht
   simp only [List.concat_eq_append] at hlen inv ⊢
   have a1:a8 (.int .i64) .sub (.int .i64 ((l.length+1:Nat):Int)) (.int .i64 1)=some (.int .i64 ((l.length:Nat):Int)):=af2 _ (l.length+1) 1 (by omega) (by omega)
   have i1:=R5 (l++[b]) .i64 l.length (by simp)
   rw [List.getElem_concat_length (by rfl)] at i1
   have p1:=agP (l++[b]) .i64 l.length (by simp)
   rw [List.take_left] at p1
   by_cases hb:b=c
   ·subst hb
    simp only [j0,hlen,a1,i1,p1,show (((l.length+1:Nat):Int)>0) from by omega]
    exact ⟨_,rfl,.inr ⟨rfl,l.length,by omega,l,rfl,by omega,rfl,by rw [<-inv,als]⟩⟩
   ·have hk:¬ ((b.toNat:Int)=(c.toNat:Int)):=fun e=>hb (UInt8.toNat_inj.1 (by omega))
    simp only [j0,hlen,a1,i1,hk,show (((l.length+1:Nat):Int)>0) from by omega]
    exact ⟨_,rfl,.inl ⟨0,rfl,rfl,by rw [<-inv,amH hb]⟩⟩
 rintro _ _ H ⟨rfl,rfl⟩
 simp only [j0]
 exact k9.here rfl
theorem atq (s:Bs) (c:UInt8) (hs:s.length<=1000000000):qc F0 [.str s,.int .u8 (c.toNat:Int)]=some (.str (S4 c s)):=by
 suffices h:k9 (cv F0 [.str s,.int .u8 (c.toNat:Int)] []) fun r=>r.1 = .str (S4 c s) by
  obtain ⟨⟨v,H⟩,e,h⟩:=h
  have h:v=_:=h
  subst h
  exact y5 e (by simp only [j0]) rfl
 rw [adl]
 refine k9.P6 (I:=fun n st H=>∃ t:Bs,n=t.length/\t.length<=s.length/\st=[.str t,.int .u8 (c.toNat:Int)]/\S4 c t=S4 c s)
  (P:=fun q vs H=>q=0/\vs=[.str (S4 c s)]) (n:=s.length) ?_ ⟨s,rfl,by omega,rfl,rfl⟩ ?_
 ·rintro n st H ⟨t,rfl,ht,rfl,inv⟩
  rw [acj]
  cases t with
  | nil =>
    simp only [j0,List.length_nil,show ¬ (((0:Nat):Int)>0) from by omega]
    exact ⟨_,rfl,.inl ⟨0,rfl,rfl,by rw [<-inv]; rfl⟩⟩
  | cons b l =>
    have i1:p9 (.str (b::l)) (.int .i64 0)=some (.int .u8 (b.toNat:Int)):=R5 (b::l) .i64 0 (by simp)
    have p1:w8 (.str (b::l)) (some (.int .i64 1)) none=some (.str l):=agH (b::l) .i64 1 (by simp)
    simp only [List.length_cons] at ht
    by_cases hb:b=c
    ·subst hb
     simp only [j0,List.length_cons,i1,p1,show (((l.length+1:Nat):Int)>0) from by omega]
     exact ⟨_,rfl,.inr ⟨rfl,l.length,by simp,l,rfl,by omega,rfl,by rw [<-inv]; simp [S4]⟩⟩
    ·have hk:¬ ((b.toNat:Int)=(c.toNat:Int)):=fun e=>hb (UInt8.toNat_inj.1 (by omega))
     simp only [j0,List.length_cons,i1,hk,show (((l.length+1:Nat):Int)>0) from by omega]
     exact ⟨_,rfl,.inl ⟨0,rfl,rfl,by rw [<-inv]; simp [S4,hb]⟩⟩
 rintro _ _ H ⟨rfl,rfl⟩
 simp only [j0]
 exact k9.here rfl
set_option maxRecDepth 100000 in
theorem ar2 (s:Bs) (hs:s.length<=1000000000):qc aaN [.str s,.str [32]]=some (.str (agW s)):=by
 have e1:qc E3 [.str s,.int .u8 32]=_:=atc s 32 hs
 have e2:qc F0 [.str (Q9 32 s),.int .u8 32]=_:=atq (Q9 32 s) 32 (by have:=aoa 32 s; omega)
 have i1:p9 (.str [32]) (.int .i64 0)=some (.int .u8 32):=rfl
 refine y5 (H:=[]) ?_ (by simp only [j0]) rfl
 show cv _ _ _=_
 rw [ai4]
 by_cases h:s=[]
 ·subst h
  simp only [j0,decide_true]
  rfl
 ·have n2:¬ (([32]:Bs)=[]):=by decide
  simp only [j0,e1,e2,i1,h,n2,show ((32:Int)<128) from by decide]
  try rfl
end Go.Proofs.YtmokcpfbeggigaaGreatDoor.Q
