/- Contracts: mailboxes are added (reference); draws of mailboxes. -/
import Derived.Test.YtpbgpeojlfdpoaaGreatDoorExactTraceMailC94impldeliverZ
namespace Go.Proofs.YtpbgpeojlfdpoaaGreatDoor.Q
open Go Go.AM
set_option linter.unusedSimpArgs false
set_option linter.unusedVariables false
set_option linter.unusedSectionVars false
def aj7 (p:Bs):List z7->List z7
 | []=>[⟨p,[]⟩]
 | b::l=>if ltT p b.path=true then ⟨p,[]⟩::b::l else b::aj7 p l
def azj (l:List z7) (p:Bs):Bool:=axq l&&(L6 p&&(!(l.any (U4 p)) && !decide (l.length=8)))
def axx (l:List z7) (p:Bs):List z7:=if azj l p=true then aj7 p l else []
theorem an8 (p:Bs):∀ l:List z7,(aj7 p l).length=l.length+1
 | []=>rfl
 | b::l=>by
   unfold aj7
   split
   ·rfl
   ·simp [an8 p l]
theorem apg {p:Bs} {x:z7}:∀ {l:List z7},x ∈ aj7 p l->x=⟨p,[]⟩\/x ∈ l
 | [],h=>by simp [aj7] at h; exact .inl h
 | b::l,h=>by
   unfold aj7 at h
   split at h
   ·rcases List.mem_cons.1 h with h | h
    ·exact .inl h
    ·exact .inr h
   ·rcases List.mem_cons.1 h with h | h
    ·exact .inr (by simp [h])
    ·rcases apg h with h | h
     ·exact .inl h
     ·exact .inr (by simp [h])
def RoX (r:List (List V)) (l:List z7):Prop:=n7 r=vR eX l/\B6 r=true/\D6 2 r=true
theorem RoX.nil:RoX [] []:=⟨rfl,rfl,rfl⟩
theorem RoX.len {r:List (List V)} {l:List z7} (h:RoX r l):r.length=l.length:=by
 have:=congrArg List.length h.1
 rwa [R6,aoX] at this
theorem aqf (a b:List (List V)):n7 (a++b)=n7 a++n7 b:=by rw [abV,abV,abV,List.map_append]
theorem arv {a b:List (List V)} (h:B6 a=true) (g:B6 b=true):B6 (a++b)=true:=by
 induction a with
 | nil=>exact g
 | cons x a ih =>
   simp only [B6,Bool.and_eq_true] at h
   simp only [List.cons_append,B6,h.1,ih h.2,Bool.and_self]
theorem RoX.app {r s:List (List V)} {l k:List z7} (h:RoX r l) (g:RoX s k):RoX (r++s) (l++k):=by
 refine ⟨by rw [aqf,h.1,g.1,ayl],arv h.2.1 g.2.1,?_⟩
 have h1:=h.2.2; have h2:=g.2.2
 simp only [D6,List.all_append,Bool.and_eq_true] at h1 h2 ⊢
 exact ⟨h1,h2⟩
theorem RoX.one (b:z7):RoX [[.str b.path,.sl false (vR eM b.D2)]] [b]:=⟨by simp only [n7,l8,strip,acm]; rfl,by simp only [B6,s7,data,aeS,Bool.and_self],rfl⟩
theorem RoX.new (p:Bs):RoX [[.str p,.sl true []]] [⟨p,[]⟩]:=⟨rfl,rfl,rfl⟩
theorem RoX.own (l:List z7):RoX (vOX l) l:=⟨ahX l,akc l,aww l⟩
theorem RoX.rows {r:List (List V)} {l:List z7} (h:RoX r l):Go.AM.Rows 2 r:=fun x hx=>by
 have:=h.2.2
 simp only [D6,List.all_eq_true] at this
 exact Nat.eq_of_beq_eq_true (this x hx)
def DX (n:Nat) (l:List z7):Prop:=l.length<=n/\∀ b ∈ l,b.path.length<=200/\b.D2.length<=n/\∀ m ∈ b.D2,TnM m
theorem DX.le {n k:Nat} {l:List z7} (h:DX n l) (hn:n<=k):DX k l:=⟨by have:=h.1; omega,fun b hb=>⟨(h.2 b hb).1,by have:=(h.2 b hb).2.1; omega,(h.2 b hb).2.2⟩⟩
theorem DX.path {n:Nat} {l:List z7} (h:DX n l):∀ b ∈ l,b.path.length<=1049600:=fun b hb=>by have:=(h.2 b hb).1; omega
theorem DX.nil (n:Nat):DX n []:=⟨by simp,by simp⟩
theorem DX.add {n:Nat} {l:List z7} {p:Bs} (h:DX n l) (hp:p.length<=200):DX (n+1) (axx l p):=by
 unfold axx
 split
 ·refine ⟨by rw [an8]; have:=h.1; omega,fun b hb=>?_⟩
  rcases apg hb with rfl | hb
  ·exact ⟨hp,by simp,by simp⟩
  ·have:=h.2 b hb; exact ⟨this.1,by omega,this.2.2⟩
 ·exact DX.nil _
theorem DX.dl1 {n:Nat} {l:List z7} {m:s8} {t:Bs} (h:DX n l) (hm:TnM m) (ht:t.length<=200):DX (n+1) (Q.dl1 l m t).1:=by
 refine ⟨by rw [aqC]; have:=h.1; omega,fun b hb=>?_⟩
 unfold Q.dl1 at hb
 split at hb
 ·rename_i ha
  have hlt:=adT ha
  split at hb
  ·have:=h.2 b hb; exact ⟨this.1,by omega,this.2.2⟩
  ·rcases List.mem_or_eq_of_mem_set hb with hb | rfl
   ·have:=h.2 b hb; exact ⟨this.1,by omega,this.2.2⟩
   ·have:=h.2 _ (atE hlt)
    refine ⟨this.1,by simp; omega,fun x hx=>?_⟩
    rcases List.mem_append.1 hx with hx | hx
    ·exact this.2.2 x hx
    ·simp at hx; subst hx
     exact ⟨hm.1,TnT.one (by omega) ht,hm.2.2⟩
 ·have:=h.2 b hb; exact ⟨this.1,by omega,this.2.2⟩
theorem DX.dlN {m:s8} (hm:TnM m):∀ {tos:List Bs} {n:Nat} {s:List z7 × List Int},DX n s.1->(∀ t ∈ tos,t.length<=200)->DX (n+tos.length) (Q.dlN m tos s).1
 | [],n,s,h,_=>by simpa [Q.dlN] using h
 | t::tos,n,s,h,ht=>by
   have h1:=DX.dl1 (t:=t) h hm (ht t (by simp))
   have:=DX.dlN (tos:=tos) (s:=dlS m s t) hm h1 (fun u hu=>ht u (by simp [hu]))
   simp only [Q.dlN,List.foldl_cons,List.length_cons] at this ⊢
   exact this.le (by omega)
def VX (v:V) (k:Nat) (H:VH) (l:List z7):Prop:=(∃ o r,v = .sl o r/\RoX r l)\/(∃ j r,v = .o9 j 0 r.length 2/\j ≠ k/\H[j]? = some r.flatten/\r ≠ []/\RoX r l)
theorem VX.fr {v:V} {k b:Nat} {F H:VH} {l:List z7} (h:VX v k F l) (hf:Rf F k b H):VX v k H l:=by
 rcases h with h | ⟨j,r,h1,h2,h3,h4⟩
 ·exact .inl h
 ·exact .inr ⟨j,r,h1,h2,by rw [hf.2.2 j h2 (List.getElem?_eq_some_iff.1 h3).1]; exact h3,h4⟩
end Go.Proofs.YtpbgpeojlfdpoaaGreatDoor.Q
