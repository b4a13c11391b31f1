/- Laws of mailboxes. -/
import Derived.Test.YtpbgpeojlfdpoaaGreatDoorExactTraceMailC96boxdrawsZ
namespace Go.Proofs.YtpbgpeojlfdpoaaGreatDoor.Q
open Go Go.AM
set_option linter.unusedSimpArgs false
set_option linter.unusedVariables false
set_option linter.unusedSectionVars false
theorem anm (l:List z7) (m:s8) (t:Bs):(dl1 l m t).1.map z7.path=l.map z7.path:=by
 apply List.ext_getElem
 ·simp [aqC]
 ·intro i h1 h2
  simp only [List.length_map] at h1 h2
  have:=auD l m t i
  rw [aed h1,aed h2] at this
  simp only [List.getElem_map]; exact this
theorem anv {l:List z7} {i j:Nat} {b:z7} (h:i<l.length):H9 (l.set i b) j=if j=i then b else H9 l j:=by
 by_cases e:j=i
 ·subst e
  rw [if_pos rfl,aed (by simpa using h),List.getElem_set_self]
 ·rw [if_neg e]
  unfold H9
  rw [List.getD_eq_getElem?_getD,List.getElem?_set_ne (by omega),<-List.getD_eq_getElem?_getD]
theorem aoV {l k:List z7} (h:l.map z7.path=k.map z7.path) (p:Bs):l.any (U4 p)=k.any (U4 p):=by
 have e:∀ l:List z7,l.any (U4 p)=(l.map z7.path).any (fun q=>decide (q=p)):=fun l=>by rw [List.any_map]; rfl
 rw [e,e,h]
theorem apz {l k:List z7} (h:l.map z7.path=k.map z7.path) (p:Bs):l.findIdx (U4 p)=k.findIdx (U4 p):=by
 have e:∀ l:List z7,l.findIdx (U4 p)=(l.map z7.path).findIdx (fun q=>decide (q=p)):=fun l=>by rw [List.findIdx_map]; rfl
 rw [e,e,h]
theorem aoh (l:List z7) (m:s8) (t:Bs) (j:Nat):(H9 l j).D2.length<=(H9 (dl1 l m t).1 j).D2.length:=by
 unfold dl1
 split
 ·rename_i ha
  have hx:=adT ha
  split
  ·exact Nat.le_refl _
  ·simp only
   rw [anv hx]
   split
   ·rename_i e; subst e; simp
   ·exact Nat.le_refl _
 ·exact Nat.le_refl _
theorem aun (l:List z7) (m:s8) (t:Bs) (h:l.any (U4 t)=true):min 4 ((H9 l (l.findIdx (U4 t))).D2.length+1)<=(H9 (dl1 l m t).1 (l.findIdx (U4 t))).D2.length:=by
 have hx:=adT h
 unfold dl1
 rw [if_pos h]
 split
 ·rename_i h4; simp only; omega
 ·simp only
  rw [anv hx,if_pos rfl]
  simp; omega
theorem anq (m:s8):∀ (tos:List Bs) (s:List z7 × List Int),(dlN m tos s).1.map z7.path=s.1.map z7.path
 | [],s=>rfl
 | t::tos,s=>by
   have:=anq m tos (dlS m s t)
   simp only [dlN,List.foldl_cons] at this ⊢
   rw [this]
   exact anm s.1 m t
theorem aoW (m:s8) (j:Nat):∀ (tos:List Bs) (s:List z7 × List Int),(H9 s.1 j).D2.length<=(H9 (dlN m tos s).1 j).D2.length
 | [],s=>Nat.le_refl _
 | t::tos,s=>by
   have:=aoW m j tos (dlS m s t)
   simp only [dlN,List.foldl_cons] at this ⊢
   exact Nat.le_trans (aoh s.1 m t j) this
theorem apD (m:s8) (u:Bs):∀ (tos:List Bs) (s:List z7 × List Int),u ∈ tos->s.1.any (U4 u)=true →
 min 4 ((H9 s.1 (s.1.findIdx (U4 u))).D2.length+1)<=(H9 (dlN m tos s).1 (s.1.findIdx (U4 u))).D2.length
 | [],s,h,_=>by simp at h
 | t::tos,s,h,ha=>by
   have hp:=anm s.1 m t
   by_cases e:u=t
   ·subst e
    have h1:=aun s.1 m u ha
    have h2:=aoW m (s.1.findIdx (U4 u)) tos (dlS m s u)
    simp only [dlN,List.foldl_cons] at h2 ⊢
    exact Nat.le_trans h1 h2
   ·have hm:u ∈ tos:=by
     rcases List.mem_cons.1 h with h | h
     ·exact absurd h e
     ·exact h
    have h1:=apD m u tos (dlS m s t) hm (by show (dl1 s.1 m t).1.any _=true; rw [aoV hp]; exact ha)
    have h2:=aoh s.1 m t (s.1.findIdx (U4 u))
    have e2:(dlS m s t).1.findIdx (U4 u)=s.1.findIdx (U4 u):=apz hp u
    rw [e2] at h1
    simp only [dlN,List.foldl_cons] at h1 ⊢
    have e3:(H9 (dlS m s t).1 (s.1.findIdx (U4 u))).D2.length=(H9 (dl1 s.1 m t).1 (s.1.findIdx (U4 u))).D2.length:=rfl
    omega
def au4 (j:Nat) (l:List z7) (tos:List Bs):Prop:=∀ u ∈ tos,l.any (U4 u)=true->min 4 j<=(H9 l (l.findIdx (U4 u))).D2.length
theorem au4.next {j:Nat} {l:List z7} {m:s8} (h:au4 j l m.to):au4 (j+1) (dlN m m.to (l,[])).1 m.to:=fun u hu ha=>by
 have hp:=anq m m.to (l,[])
 rw [aoV hp] at ha
 rw [apz hp]
 have h1:=apD m u m.to (l,[]) hu ha
 have h2:=h u hu ha
 simp only at h1 ⊢
 omega
end Go.Proofs.YtpbgpeojlfdpoaaGreatDoor.Q
