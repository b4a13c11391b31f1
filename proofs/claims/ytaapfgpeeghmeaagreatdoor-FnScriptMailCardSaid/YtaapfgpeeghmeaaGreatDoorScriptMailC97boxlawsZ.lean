/- Laws of mailboxes. -/
import Derived.Test.YtaapfgpeeghmeaaGreatDoorScriptMailC96boxdrawsZ
namespace Go.Proofs.YtaapfgpeeghmeaaGreatDoor.Q
open Go Go.AM
set_option linter.unusedSimpArgs false
set_option linter.unusedVariables false
set_option linter.unusedSectionVars false
theorem arU (l:List y0) (m:l9) (t:Bs):(dl1 l m t).1.map y0.path=l.map y0.path:=by
 apply List.ext_getElem
 ·simp [ai4]
 ·intro i h1 h2
  simp only [List.length_map] at h1 h2
  have:=aoO l m t i
  rw [K6 h1,K6 h2] at this
  simp only [List.getElem_map]; exact this
theorem ar8 {l:List y0} {i j:Nat} {b:y0} (h:i<l.length):C8 (l.set i b) j=if j=i then b else C8 l j:=by
 by_cases e:j=i
 ·subst e
  rw [if_pos rfl,K6 (by simpa using h),List.getElem_set_self]
 ·rw [if_neg e]
  unfold C8
  rw [List.getD_eq_getElem?_getD,List.getElem?_set_ne (by omega),<-List.getD_eq_getElem?_getD]
theorem atc {l k:List y0} (h:l.map y0.path=k.map y0.path) (p:Bs):l.any (G4 p)=k.any (G4 p):=by
 have e:∀ l:List y0,l.any (G4 p)=(l.map y0.path).any (fun q=>decide (q=p)):=fun l=>by rw [List.any_map]; rfl
 rw [e,e,h]
theorem aty {l k:List y0} (h:l.map y0.path=k.map y0.path) (p:Bs):l.findIdx (G4 p)=k.findIdx (G4 p):=by
 have e:∀ l:List y0,l.findIdx (G4 p)=(l.map y0.path).findIdx (fun q=>decide (q=p)):=fun l=>by rw [List.findIdx_map]; rfl
 rw [e,e,h]
theorem as9 (l:List y0) (m:l9) (t:Bs) (j:Nat):(C8 l j).o8.length<=(C8 (dl1 l m t).1 j).o8.length:=by
 unfold dl1
 split
 ·rename_i ha
  have hx:=aao ha
  split
  ·exact Nat.le_refl _
  ·simp only
   rw [ar8 hx]
   split
   ·rename_i e; subst e; simp
   ·exact Nat.le_refl _
 ·exact Nat.le_refl _
theorem aAl (l:List y0) (m:l9) (t:Bs) (h:l.any (G4 t)=true):min 4 ((C8 l (l.findIdx (G4 t))).o8.length+1)<=(C8 (dl1 l m t).1 (l.findIdx (G4 t))).o8.length:=by
 have hx:=aao h
 unfold dl1
 rw [if_pos h]
 split
 ·rename_i h4; simp only; omega
 ·simp only
  rw [ar8 hx,if_pos rfl]
  simp; omega
theorem asd (m:l9):∀ (tos:List Bs) (s:List y0 × List Int),(S2 m tos s).1.map y0.path=s.1.map y0.path
 | [],s=>rfl
 | t::tos,s=>by
   have:=asd m tos (dlS m s t)
   simp only [S2,List.foldl_cons] at this ⊢
   rw [this]
   exact arU s.1 m t
theorem atw (m:l9) (j:Nat):∀ (tos:List Bs) (s:List y0 × List Int),(C8 s.1 j).o8.length<=(C8 (S2 m tos s).1 j).o8.length
 | [],s=>Nat.le_refl _
 | t::tos,s=>by
   have:=atw m j tos (dlS m s t)
   simp only [S2,List.foldl_cons] at this ⊢
   exact Nat.le_trans (as9 s.1 m t j) this
theorem atv (m:l9) (u:Bs):∀ (tos:List Bs) (s:List y0 × List Int),u ∈ tos->s.1.any (G4 u)=true →
 min 4 ((C8 s.1 (s.1.findIdx (G4 u))).o8.length+1)<=(C8 (S2 m tos s).1 (s.1.findIdx (G4 u))).o8.length
 | [],s,h,_=>by simp at h
 | t::tos,s,h,ha=>by
   have hp:=arU s.1 m t
   by_cases e:u=t
   ·subst e
    have h1:=aAl s.1 m u ha
    have h2:=atw m (s.1.findIdx (G4 u)) tos (dlS m s u)
    simp only [S2,List.foldl_cons] at h2 ⊢
    exact Nat.le_trans h1 h2
   ·have hm:u ∈ tos:=by
     rcases List.mem_cons.1 h with h | h
     ·exact absurd h e
     ·exact h
    have h1:=atv m u tos (dlS m s t) hm (by show (dl1 s.1 m t).1.any _=true; rw [atc hp]; exact ha)
    have h2:=as9 s.1 m t (s.1.findIdx (G4 u))
    have e2:(dlS m s t).1.findIdx (G4 u)=s.1.findIdx (G4 u):=aty hp u
    rw [e2] at h1
    simp only [S2,List.foldl_cons] at h1 ⊢
    have e3:(C8 (dlS m s t).1 (s.1.findIdx (G4 u))).o8.length=(C8 (dl1 s.1 m t).1 (s.1.findIdx (G4 u))).o8.length:=rfl
    omega
def az1 (j:Nat) (l:List y0) (tos:List Bs):Prop:=∀ u ∈ tos,l.any (G4 u)=true->min 4 j<=(C8 l (l.findIdx (G4 u))).o8.length
theorem az1.next {j:Nat} {l:List y0} {m:l9} (h:az1 j l m.to):az1 (j+1) (S2 m m.to (l,[])).1 m.to:=fun u hu ha=>by
 have hp:=asd m m.to (l,[])
 rw [atc hp] at ha
 rw [aty hp]
 have h1:=atv m u m.to (l,[]) hu ha
 have h2:=h u hu ha
 simp only at h1 ⊢
 omega
end Go.Proofs.YtaapfgpeeghmeaaGreatDoor.Q
