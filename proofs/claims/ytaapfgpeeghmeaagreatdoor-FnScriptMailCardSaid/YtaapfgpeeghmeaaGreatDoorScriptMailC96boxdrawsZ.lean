/- Contracts: mailboxes are added (reference); draws of mailboxes. -/
import Derived.Test.YtaapfgpeeghmeaaGreatDoorScriptMailC94impldeliverZ
namespace Go.Proofs.YtaapfgpeeghmeaaGreatDoor.Q
open Go Go.AM
set_option linter.unusedSimpArgs false
set_option linter.unusedVariables false
set_option linter.unusedSectionVars false
def agv (p:Bs):List y0->List y0
 | []=>[⟨p,[]⟩]
 | b::l=>if W2 p b.path=true then ⟨p,[]⟩::b::l else b::agv p l
def aot (l:List y0) (p:Bs):Bool:=Q3 l&&(G0 p&&(!(l.any (G4 p)) && !decide (l.length=8)))
def akG (l:List y0) (p:Bs):List y0:=if aot l p=true then agv p l else []
theorem aoH (p:Bs):∀ l:List y0,(agv p l).length=l.length+1
 | []=>rfl
 | b::l=>by
   unfold agv
   split
   ·rfl
   ·simp [aoH p l]
theorem auv {p:Bs} {x:y0}:∀ {l:List y0},x ∈ agv p l->x=⟨p,[]⟩\/x ∈ l
 | [],h=>by simp [agv] at h; exact .inl h
 | b::l,h=>by
   unfold agv at h
   split at h
   ·rcases List.mem_cons.1 h with h | h
    ·exact .inl h
    ·exact .inr h
   ·rcases List.mem_cons.1 h with h | h
    ·exact .inr (by simp [h])
    ·rcases auv h with h | h
     ·exact .inl h
     ·exact .inr (by simp [h])
def RoX (r:List (List V)) (l:List y0):Prop:=n8 r=vR eX l/\D8 r=true/\F3 2 r=true
theorem RoX.nil:RoX [] []:=⟨rfl,rfl,rfl⟩
theorem RoX.len {r:List (List V)} {l:List y0} (h:RoX r l):r.length=l.length:=by
 have:=congrArg List.length h.1
 rwa [aaq,atJ] at this
theorem auL (a b:List (List V)):n8 (a++b)=n8 a++n8 b:=by rw [acF,acF,acF,List.map_append]
theorem awf {a b:List (List V)} (h:D8 a=true) (g:D8 b=true):D8 (a++b)=true:=by
 induction a with
 | nil=>exact g
 | cons x a ih =>
   simp only [D8,Bool.and_eq_true] at h
   simp only [List.cons_append,D8,h.1,ih h.2,Bool.and_self]
theorem RoX.app {r s:List (List V)} {l k:List y0} (h:RoX r l) (g:RoX s k):RoX (r++s) (l++k):=by
 refine ⟨by rw [auL,h.1,g.1,aER],awf h.2.1 g.2.1,?_⟩
 have h1:=h.2.2; have h2:=g.2.2
 simp only [F3,List.all_append,Bool.and_eq_true] at h1 h2 ⊢
 exact ⟨h1,h2⟩
theorem RoX.one (b:y0):RoX [[.str b.path,.sl false (vR eM b.o8)]] [b]:=⟨by simp only [n8,m8,strip,aex]; rfl,by simp only [D8,A7,data,adz,Bool.and_self],rfl⟩
theorem RoX.new (p:Bs):RoX [[.str p,.sl true []]] [⟨p,[]⟩]:=⟨rfl,rfl,rfl⟩
theorem RoX.own (l:List y0):RoX (E8 l) l:=⟨agq l,akb l,aq3 l⟩
theorem RoX.rows {r:List (List V)} {l:List y0} (h:RoX r l):Go.AM.Rows 2 r:=fun x hx=>by
 have:=h.2.2
 simp only [F3,List.all_eq_true] at this
 exact Nat.eq_of_beq_eq_true (this x hx)
theorem RoX.aw8 {r s:List (List V)} {l k:List y0} (h:RoX r l) (g:RoX s k) (hl:l.length+k.length<=2000000):F8 false 2 40 r (.sl true s)=some (.sl true (r++s)) :=
 aeZ 2 40 r true s h.2.2 g.2.2 (by rw [h.len,g.len]; omega)
def DX (n:Nat) (l:List y0):Prop:=l.length<=n/\∀ b ∈ l,b.path.length<=200/\b.o8.length<=n/\∀ m ∈ b.o8,TnM m
theorem DX.sm {n:Nat} {l:List y0} (h:DX n l) (hn:n<=1049600):adg l :=
 ⟨by have:=h.1; omega,fun b hb=>⟨by have:=(h.2 b hb).1; omega,by have:=(h.2 b hb).2.1; omega,fun m hm=>((h.2 b hb).2.2 m hm).sm⟩⟩
theorem DX.le {n k:Nat} {l:List y0} (h:DX n l) (hn:n<=k):DX k l:=⟨by have:=h.1; omega,fun b hb=>⟨(h.2 b hb).1,by have:=(h.2 b hb).2.1; omega,(h.2 b hb).2.2⟩⟩
theorem DX.path {n:Nat} {l:List y0} (h:DX n l):∀ b ∈ l,b.path.length<=1049600:=fun b hb=>by have:=(h.2 b hb).1; omega
theorem DX.nil (n:Nat):DX n []:=⟨by simp,by simp⟩
theorem DX.add {n:Nat} {l:List y0} {p:Bs} (h:DX n l) (hp:p.length<=200):DX (n+1) (akG l p):=by
 unfold akG
 split
 ·refine ⟨by rw [aoH]; have:=h.1; omega,fun b hb=>?_⟩
  rcases auv hb with rfl | hb
  ·exact ⟨hp,by simp,by simp⟩
  ·have:=h.2 b hb; exact ⟨this.1,by omega,this.2.2⟩
 ·exact DX.nil _
theorem DX.dl1 {n:Nat} {l:List y0} {m:l9} {t:Bs} (h:DX n l) (hm:TnM m) (ht:t.length<=200):DX (n+1) (Q.dl1 l m t).1:=by
 refine ⟨by rw [ai4]; have:=h.1; omega,fun b hb=>?_⟩
 unfold Q.dl1 at hb
 split at hb
 ·rename_i ha
  have hlt:=aao ha
  split at hb
  ·have:=h.2 b hb; exact ⟨this.1,by omega,this.2.2⟩
  ·rcases List.mem_or_eq_of_mem_set hb with hb | rfl
   ·have:=h.2 b hb; exact ⟨this.1,by omega,this.2.2⟩
   ·have:=h.2 _ (alW hlt)
    refine ⟨this.1,by simp; omega,fun x hx=>?_⟩
    rcases List.mem_append.1 hx with hx | hx
    ·exact this.2.2 x hx
    ·simp at hx; subst hx
     exact ⟨hm.1,TnT.one (by omega) ht,hm.2.2⟩
 ·have:=h.2 b hb; exact ⟨this.1,by omega,this.2.2⟩
theorem DX.S2 {m:l9} (hm:TnM m):∀ {tos:List Bs} {n:Nat} {s:List y0 × List Int},DX n s.1->(∀ t ∈ tos,t.length<=200)->DX (n+tos.length) (Q.S2 m tos s).1
 | [],n,s,h,_=>by simpa [Q.S2] using h
 | t::tos,n,s,h,ht=>by
   have h1:=DX.dl1 (t:=t) h hm (ht t (by simp))
   have:=DX.S2 (tos:=tos) (s:=dlS m s t) hm h1 (fun u hu=>ht u (by simp [hu]))
   simp only [Q.S2,List.foldl_cons,List.length_cons] at this ⊢
   exact this.le (by omega)
def VX (v:V) (k:Nat) (H:VH) (l:List y0):Prop:=(∃ o r,v = .sl o r/\RoX r l)\/(∃ j r,v = .y1 j 0 r.length 2/\j ≠ k/\H[j]? = some r.flatten/\r ≠ []/\RoX r l)
theorem VX.fr {v:V} {k b:Nat} {F H:VH} {l:List y0} (h:VX v k F l) (hf:Rf F k b H):VX v k H l:=by
 rcases h with h | ⟨j,r,h1,h2,h3,h4⟩
 ·exact .inl h
 ·exact .inr ⟨j,r,h1,h2,by rw [hf.2.2 j h2 (List.getElem?_eq_some_iff.1 h3).1]; exact h3,h4⟩
end Go.Proofs.YtaapfgpeeghmeaaGreatDoor.Q
