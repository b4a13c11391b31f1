/- Contracts: mailboxes are added (reference); draws of mailboxes. -/
import Derived.Test.YtpbgpeojlfdpoaaDoorExactSplitMailC94impldeliverZ
namespace Go.Proofs.YtpbgpeojlfdpoaaDoor.Q
open Go Go.AM
set_option linter.unusedSimpArgs false
set_option linter.unusedVariables false
set_option linter.unusedSectionVars false
def aiV (p:Bs):List u4->List u4
 | []=>[⟨p,[]⟩]
 | b::l=>if ltT p b.path=true then ⟨p,[]⟩::b::l else b::aiV p l
def axZ (l:List u4) (p:Bs):Bool:=avV l&&(J5 p&&(!(l.any (S8 p)) && !decide (l.length=8)))
def axo (l:List u4) (p:Bs):List u4:=if axZ l p=true then aiV p l else []
theorem am1 (p:Bs):∀ l:List u4,(aiV p l).length=l.length+1
 | []=>rfl
 | b::l=>by
   unfold aiV
   split
   ·rfl
   ·simp [am1 p l]
theorem anA {p:Bs} {x:u4}:∀ {l:List u4},x ∈ aiV p l->x=⟨p,[]⟩\/x ∈ l
 | [],h=>by simp [aiV] at h; exact .inl h
 | b::l,h=>by
   unfold aiV at h
   split at h
   ·rcases List.mem_cons.1 h with h | h
    ·exact .inl h
    ·exact .inr h
   ·rcases List.mem_cons.1 h with h | h
    ·exact .inr (by simp [h])
    ·rcases anA h with h | h
     ·exact .inl h
     ·exact .inr (by simp [h])
def RoX (r:List (List V)) (l:List u4):Prop:=l9 r=vR eX l/\z8 r=true/\A9 2 r=true
theorem RoX.nil:RoX [] []:=⟨rfl,rfl,rfl⟩
theorem RoX.len {r:List (List V)} {l:List u4} (h:RoX r l):r.length=l.length:=by
 have:=congrArg List.length h.1
 rwa [Q2,ag6] at this
theorem aoN (a b:List (List V)):l9 (a++b)=l9 a++l9 b:=by rw [abt,abt,abt,List.map_append]
theorem ap8 {a b:List (List V)} (h:z8 a=true) (g:z8 b=true):z8 (a++b)=true:=by
 induction a with
 | nil=>exact g
 | cons x a ih =>
   simp only [z8,Bool.and_eq_true] at h
   simp only [List.cons_append,z8,h.1,ih h.2,Bool.and_self]
theorem RoX.app {r s:List (List V)} {l k:List u4} (h:RoX r l) (g:RoX s k):RoX (r++s) (l++k):=by
 refine ⟨by rw [aoN,h.1,g.1,avW],ap8 h.2.1 g.2.1,?_⟩
 have h1:=h.2.2; have h2:=g.2.2
 simp only [A9,List.all_append,Bool.and_eq_true] at h1 h2 ⊢
 exact ⟨h1,h2⟩
theorem RoX.one (b:u4):RoX [[.str b.path,.sl false (vR eM b.y5)]] [b]:=⟨by simp only [l9,j3,strip,aaB]; rfl,by simp only [z8,o8,data,acQ,Bool.and_self],rfl⟩
theorem RoX.new (p:Bs):RoX [[.str p,.sl true []]] [⟨p,[]⟩]:=⟨rfl,rfl,rfl⟩
theorem RoX.own (l:List u4):RoX (vOX l) l:=⟨agW l,aiN l,avk l⟩
theorem RoX.rows {r:List (List V)} {l:List u4} (h:RoX r l):Go.AM.Rows 2 r:=fun x hx=>by
 have:=h.2.2
 simp only [A9,List.all_eq_true] at this
 exact Nat.eq_of_beq_eq_true (this x hx)
def DX (n:Nat) (l:List u4):Prop:=l.length<=n/\∀ b ∈ l,b.path.length<=200/\b.y5.length<=n/\∀ m ∈ b.y5,TnM m
theorem DX.le {n k:Nat} {l:List u4} (h:DX n l) (hn:n<=k):DX k l:=⟨by have:=h.1; omega,fun b hb=>⟨(h.2 b hb).1,by have:=(h.2 b hb).2.1; omega,(h.2 b hb).2.2⟩⟩
theorem DX.path {n:Nat} {l:List u4} (h:DX n l):∀ b ∈ l,b.path.length<=1049600:=fun b hb=>by have:=(h.2 b hb).1; omega
theorem DX.nil (n:Nat):DX n []:=⟨by simp,by simp⟩
theorem DX.add {n:Nat} {l:List u4} {p:Bs} (h:DX n l) (hp:p.length<=200):DX (n+1) (axo l p):=by
 unfold axo
 split
 ·refine ⟨by rw [am1]; have:=h.1; omega,fun b hb=>?_⟩
  rcases anA hb with rfl | hb
  ·exact ⟨hp,by simp,by simp⟩
  ·have:=h.2 b hb; exact ⟨this.1,by omega,this.2.2⟩
 ·exact DX.nil _
theorem DX.dl1 {n:Nat} {l:List u4} {m:j0} {t:Bs} (h:DX n l) (hm:TnM m) (ht:t.length<=200):DX (n+1) (Q.dl1 l m t).1:=by
 refine ⟨by rw [apl]; have:=h.1; omega,fun b hb=>?_⟩
 unfold Q.dl1 at hb
 split at hb
 ·rename_i ha
  have hlt:=ac0 ha
  split at hb
  ·have:=h.2 b hb; exact ⟨this.1,by omega,this.2.2⟩
  ·rcases List.mem_or_eq_of_mem_set hb with hb | rfl
   ·have:=h.2 b hb; exact ⟨this.1,by omega,this.2.2⟩
   ·have:=h.2 _ (aqM hlt)
    refine ⟨this.1,by simp; omega,fun x hx=>?_⟩
    rcases List.mem_append.1 hx with hx | hx
    ·exact this.2.2 x hx
    ·simp at hx; subst hx
     exact ⟨hm.1,TnT.one (by omega) ht,hm.2.2⟩
 ·have:=h.2 b hb; exact ⟨this.1,by omega,this.2.2⟩
theorem DX.dlN {m:j0} (hm:TnM m):∀ {tos:List Bs} {n:Nat} {s:List u4 × List Int},DX n s.1->(∀ t ∈ tos,t.length<=200)->DX (n+tos.length) (Q.dlN m tos s).1
 | [],n,s,h,_=>by simpa [Q.dlN] using h
 | t::tos,n,s,h,ht=>by
   have h1:=DX.dl1 (t:=t) h hm (ht t (by simp))
   have:=DX.dlN (tos:=tos) (s:=dlS m s t) hm h1 (fun u hu=>ht u (by simp [hu]))
   simp only [Q.dlN,List.foldl_cons,List.length_cons] at this ⊢
   exact this.le (by omega)
def VX (v:V) (k:Nat) (H:VH) (l:List u4):Prop:=(∃ o r,v = .sl o r/\RoX r l)\/(∃ j r,v = .m8 j 0 r.length 2/\j ≠ k/\H[j]? = some r.flatten/\r ≠ []/\RoX r l)
theorem VX.fr {v:V} {k b:Nat} {F H:VH} {l:List u4} (h:VX v k F l) (hf:Rf F k b H):VX v k H l:=by
 rcases h with h | ⟨j,r,h1,h2,h3,h4⟩
 ·exact .inl h
 ·exact .inr ⟨j,r,h1,h2,by rw [hf.2.2 j h2 (List.getElem?_eq_some_iff.1 h3).1]; exact h3,h4⟩
end Go.Proofs.YtpbgpeojlfdpoaaDoor.Q
