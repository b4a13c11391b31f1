/- Laws of mailboxes. -/
import Derived.Test.YtaapfgpeeghmeaaGreatDoorScriptTraceC96boxdrawsZ
namespace Go.Proofs.YtaapfgpeeghmeaaGreatDoor.Q
open Go Go.AM
set_option linter.unusedSimpArgs false
set_option linter.unusedVariables false
set_option linter.unusedSectionVars false
theorem ao1 (l:List A3) (m:z7) (t:Bs):(dl1 l m t).1.map A3.path=l.map A3.path:=by
 apply List.ext_getElem
 ·simp [ahG]
 ·intro i h1 h2
  simp only [List.length_map] at h1 h2
  have:=alN l m t i
  rw [N3 h1,N3 h2] at this
  simp only [List.getElem_map]; exact this
theorem apl {l:List A3} {i j:Nat} {b:A3} (h:i<l.length):C7 (l.set i b) j=if j=i then b else C7 l j:=by
 by_cases e:j=i
 ·subst e
  rw [if_pos rfl,N3 (by simpa using h),List.getElem_set_self]
 ·rw [if_neg e]
  unfold C7
  rw [List.getD_eq_getElem?_getD,List.getElem?_set_ne (by omega),<-List.getD_eq_getElem?_getD]
theorem arQ {l k:List A3} (h:l.map A3.path=k.map A3.path) (p:Bs):l.any (K9 p)=k.any (K9 p):=by
 have e:∀ l:List A3,l.any (K9 p)=(l.map A3.path).any (fun q=>decide (q=p)):=fun l=>by rw [List.any_map]; rfl
 rw [e,e,h]
theorem ap5 {l k:List A3} (h:l.map A3.path=k.map A3.path) (p:Bs):l.findIdx (K9 p)=k.findIdx (K9 p):=by
 have e:∀ l:List A3,l.findIdx (K9 p)=(l.map A3.path).findIdx (fun q=>decide (q=p)):=fun l=>by rw [List.findIdx_map]; rfl
 rw [e,e,h]
theorem aqQ (l:List A3) (m:z7) (t:Bs) (j:Nat):(C7 l j).y7.length<=(C7 (dl1 l m t).1 j).y7.length:=by
 unfold dl1
 split
 ·rename_i ha
  have hx:=Z9 ha
  split
  ·exact Nat.le_refl _
  ·simp only
   rw [apl hx]
   split
   ·rename_i e; subst e; simp
   ·exact Nat.le_refl _
 ·exact Nat.le_refl _
theorem ayh (l:List A3) (m:z7) (t:Bs) (h:l.any (K9 t)=true):min 4 ((C7 l (l.findIdx (K9 t))).y7.length+1)<=(C7 (dl1 l m t).1 (l.findIdx (K9 t))).y7.length:=by
 have hx:=Z9 h
 unfold dl1
 rw [if_pos h]
 split
 ·rename_i h4; simp only; omega
 ·simp only
  rw [apl hx,if_pos rfl]
  simp; omega
theorem aps (m:z7):∀ (tos:List Bs) (s:List A3 × List Int),(S4 m tos s).1.map A3.path=s.1.map A3.path
 | [],s=>rfl
 | t::tos,s=>by
   have:=aps m tos (dlS m s t)
   simp only [S4,List.foldl_cons] at this ⊢
   rw [this]
   exact ao1 s.1 m t
theorem aqm (m:z7) (j:Nat):∀ (tos:List Bs) (s:List A3 × List Int),(C7 s.1 j).y7.length<=(C7 (S4 m tos s).1 j).y7.length
 | [],s=>Nat.le_refl _
 | t::tos,s=>by
   have:=aqm m j tos (dlS m s t)
   simp only [S4,List.foldl_cons] at this ⊢
   exact Nat.le_trans (aqQ s.1 m t j) this
theorem aqJ (m:z7) (u:Bs):∀ (tos:List Bs) (s:List A3 × List Int),u ∈ tos->s.1.any (K9 u)=true →
 min 4 ((C7 s.1 (s.1.findIdx (K9 u))).y7.length+1)<=(C7 (S4 m tos s).1 (s.1.findIdx (K9 u))).y7.length
 | [],s,h,_=>by simp at h
 | t::tos,s,h,ha=>by
   have hp:=ao1 s.1 m t
   by_cases e:u=t
   ·subst e
    have h1:=ayh s.1 m u ha
    have h2:=aqm m (s.1.findIdx (K9 u)) tos (dlS m s u)
    simp only [S4,List.foldl_cons] at h2 ⊢
    exact Nat.le_trans h1 h2
   ·have hm:u ∈ tos:=by
     rcases List.mem_cons.1 h with h | h
     ·exact absurd h e
     ·exact h
    have h1:=aqJ m u tos (dlS m s t) hm (by show (dl1 s.1 m t).1.any _=true; rw [arQ hp]; exact ha)
    have h2:=aqQ s.1 m t (s.1.findIdx (K9 u))
    have e2:(dlS m s t).1.findIdx (K9 u)=s.1.findIdx (K9 u):=ap5 hp u
    rw [e2] at h1
    simp only [S4,List.foldl_cons] at h1 ⊢
    have e3:(C7 (dlS m s t).1 (s.1.findIdx (K9 u))).y7.length=(C7 (dl1 s.1 m t).1 (s.1.findIdx (K9 u))).y7.length:=rfl
    omega
def axQ (j:Nat) (l:List A3) (tos:List Bs):Prop:=∀ u ∈ tos,l.any (K9 u)=true->min 4 j<=(C7 l (l.findIdx (K9 u))).y7.length
theorem axQ.next {j:Nat} {l:List A3} {m:z7} (h:axQ j l m.to):axQ (j+1) (S4 m m.to (l,[])).1 m.to:=fun u hu ha=>by
 have hp:=aps m m.to (l,[])
 rw [arQ hp] at ha
 rw [ap5 hp]
 have h1:=aqJ m u m.to (l,[]) hu ha
 have h2:=h u hu ha
 simp only at h1 ⊢
 omega
end Go.Proofs.YtaapfgpeeghmeaaGreatDoor.Q
