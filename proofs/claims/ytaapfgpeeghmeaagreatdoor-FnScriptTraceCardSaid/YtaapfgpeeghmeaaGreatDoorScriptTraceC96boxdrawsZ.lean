/- Contracts: mailboxes are added (reference); draws of mailboxes. -/
import Derived.Test.YtaapfgpeeghmeaaGreatDoorScriptTraceC94impldeliverZ
namespace Go.Proofs.YtaapfgpeeghmeaaGreatDoor.Q
open Go Go.AM
set_option linter.unusedSimpArgs false
set_option linter.unusedVariables false
set_option linter.unusedSectionVars false
def amu (p:Bs):List A3->List A3
 | []=>[⟨p,[]⟩]
 | b::l=>if ltT p b.path=true then ⟨p,[]⟩::b::l else b::amu p l
def aC1 (l:List A3) (p:Bs):Bool:=V7 l&&(aa9 p&&(!(l.any (K9 p)) && !decide (l.length=8)))
def aBg (l:List A3) (p:Bs):List A3:=if aC1 l p=true then amu p l else []
theorem arK (p:Bs):∀ l:List A3,(amu p l).length=l.length+1
 | []=>rfl
 | b::l=>by
   unfold amu
   split
   ·rfl
   ·simp [arK p l]
theorem ar0 {p:Bs} {x:A3}:∀ {l:List A3},x ∈ amu p l->x=⟨p,[]⟩\/x ∈ l
 | [],h=>by simp [amu] at h; exact .inl h
 | b::l,h=>by
   unfold amu at h
   split at h
   ·rcases List.mem_cons.1 h with h | h
    ·exact .inl h
    ·exact .inr h
   ·rcases List.mem_cons.1 h with h | h
    ·exact .inr (by simp [h])
    ·rcases ar0 h with h | h
     ·exact .inl h
     ·exact .inr (by simp [h])
def RoX (r:List (List V)) (l:List A3):Prop:=n9 r=vR eX l/\D5 r=true/\F4 2 r=true
theorem RoX.nil:RoX [] []:=⟨rfl,rfl,rfl⟩
theorem RoX.len {r:List (List V)} {l:List A3} (h:RoX r l):r.length=l.length:=by
 have:=congrArg List.length h.1
 rwa [aab,aqv] at this
theorem asi (a b:List (List V)):n9 (a++b)=n9 a++n9 b:=by rw [abQ,abQ,abQ,List.map_append]
theorem aug {a b:List (List V)} (h:D5 a=true) (g:D5 b=true):D5 (a++b)=true:=by
 induction a with
 | nil=>exact g
 | cons x a ih =>
   simp only [D5,Bool.and_eq_true] at h
   simp only [List.cons_append,D5,h.1,ih h.2,Bool.and_self]
theorem RoX.app {r s:List (List V)} {l k:List A3} (h:RoX r l) (g:RoX s k):RoX (r++s) (l++k):=by
 refine ⟨by rw [asi,h.1,g.1,aAG],aug h.2.1 g.2.1,?_⟩
 have h1:=h.2.2; have h2:=g.2.2
 simp only [F4,List.all_append,Bool.and_eq_true] at h1 h2 ⊢
 exact ⟨h1,h2⟩
theorem RoX.one (b:A3):RoX [[.str b.path,.sl false (vR eM b.y7)]] [b]:=⟨by simp only [n9,o9,strip,adt]; rfl,by simp only [D5,B3,data,adO,Bool.and_self],rfl⟩
theorem RoX.new (p:Bs):RoX [[.str p,.sl true []]] [⟨p,[]⟩]:=⟨rfl,rfl,rfl⟩
theorem RoX.own (l:List A3):RoX (L1 l) l:=⟨ag1 l,ais l,anX l⟩
theorem RoX.rows {r:List (List V)} {l:List A3} (h:RoX r l):Go.AM.Rows 2 r:=fun x hx=>by
 have:=h.2.2
 simp only [F4,List.all_eq_true] at this
 exact Nat.eq_of_beq_eq_true (this x hx)
def DX (n:Nat) (l:List A3):Prop:=l.length<=n/\∀ b ∈ l,b.path.length<=200/\b.y7.length<=n/\∀ m ∈ b.y7,TnM m
theorem DX.le {n k:Nat} {l:List A3} (h:DX n l) (hn:n<=k):DX k l:=⟨by have:=h.1; omega,fun b hb=>⟨(h.2 b hb).1,by have:=(h.2 b hb).2.1; omega,(h.2 b hb).2.2⟩⟩
theorem DX.path {n:Nat} {l:List A3} (h:DX n l):∀ b ∈ l,b.path.length<=1049600:=fun b hb=>by have:=(h.2 b hb).1; omega
theorem DX.nil (n:Nat):DX n []:=⟨by simp,by simp⟩
theorem DX.add {n:Nat} {l:List A3} {p:Bs} (h:DX n l) (hp:p.length<=200):DX (n+1) (aBg l p):=by
 unfold aBg
 split
 ·refine ⟨by rw [arK]; have:=h.1; omega,fun b hb=>?_⟩
  rcases ar0 hb with rfl | hb
  ·exact ⟨hp,by simp,by simp⟩
  ·have:=h.2 b hb; exact ⟨this.1,by omega,this.2.2⟩
 ·exact DX.nil _
theorem DX.dl1 {n:Nat} {l:List A3} {m:z7} {t:Bs} (h:DX n l) (hm:TnM m) (ht:t.length<=200):DX (n+1) (Q.dl1 l m t).1:=by
 refine ⟨by rw [ahG]; have:=h.1; omega,fun b hb=>?_⟩
 unfold Q.dl1 at hb
 split at hb
 ·rename_i ha
  have hlt:=Z9 ha
  split at hb
  ·have:=h.2 b hb; exact ⟨this.1,by omega,this.2.2⟩
  ·rcases List.mem_or_eq_of_mem_set hb with hb | rfl
   ·have:=h.2 b hb; exact ⟨this.1,by omega,this.2.2⟩
   ·have:=h.2 _ (aoV hlt)
    refine ⟨this.1,by simp; omega,fun x hx=>?_⟩
    rcases List.mem_append.1 hx with hx | hx
    ·exact this.2.2 x hx
    ·simp at hx; subst hx
     exact ⟨hm.1,TnT.one (by omega) ht,hm.2.2⟩
 ·have:=h.2 b hb; exact ⟨this.1,by omega,this.2.2⟩
theorem DX.S4 {m:z7} (hm:TnM m):∀ {tos:List Bs} {n:Nat} {s:List A3 × List Int},DX n s.1->(∀ t ∈ tos,t.length<=200)->DX (n+tos.length) (Q.S4 m tos s).1
 | [],n,s,h,_=>by simpa [Q.S4] using h
 | t::tos,n,s,h,ht=>by
   have h1:=DX.dl1 (t:=t) h hm (ht t (by simp))
   have:=DX.S4 (tos:=tos) (s:=dlS m s t) hm h1 (fun u hu=>ht u (by simp [hu]))
   simp only [Q.S4,List.foldl_cons,List.length_cons] at this ⊢
   exact this.le (by omega)
def VX (v:V) (k:Nat) (H:VH) (l:List A3):Prop:=(∃ o r,v = .sl o r/\RoX r l)\/(∃ j r,v = .l8 j 0 r.length 2/\j ≠ k/\H[j]? = some r.flatten/\r ≠ []/\RoX r l)
theorem VX.fr {v:V} {k b:Nat} {F H:VH} {l:List A3} (h:VX v k F l) (hf:Rf F k b H):VX v k H l:=by
 rcases h with h | ⟨j,r,h1,h2,h3,h4⟩
 ·exact .inl h
 ·exact .inr ⟨j,r,h1,h2,by rw [hf.2.2 j h2 (List.getElem?_eq_some_iff.1 h3).1]; exact h3,h4⟩
end Go.Proofs.YtaapfgpeeghmeaaGreatDoor.Q
