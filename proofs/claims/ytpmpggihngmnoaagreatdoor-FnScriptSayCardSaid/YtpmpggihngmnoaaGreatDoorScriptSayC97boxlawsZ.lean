/- Laws of mailboxes. -/
import Derived.Test.YtpmpggihngmnoaaGreatDoorScriptSayC96boxdrawsZ
namespace Go.Proofs.YtpmpggihngmnoaaGreatDoor.Q
open Go Go.AM
set_option linter.unusedSimpArgs false
set_option linter.unusedVariables false
set_option linter.unusedSectionVars false
theorem dl1_paths (l : List Box) (m : Mail) (t : Bs) : (dl1 l m t).1.map Box.path = l.map Box.path := by
 apply List.ext_getElem
 ·simp [dl1_len]
 ·intro i h1 h2
  simp only [List.length_map] at h1 h2
  have := dl1_path l m t i
  rw [boxAt_get h1, boxAt_get h2] at this
  simp only [List.getElem_map]; exact this
def c250 (cs : List Int) : Nat := (cs.filter fun c => decide (c = 250)).length
theorem boxAt_set {l : List Box} {i j : Nat} {b : Box} (h : i < l.length) : boxAt (l.set i b) j = if j = i then b else boxAt l j := by
 by_cases e : j = i
 ·subst e
  rw [if_pos rfl, boxAt_get (by simpa using h), List.getElem_set_self]
 ·rw [if_neg e]
  unfold boxAt
  rw [List.getD_eq_getElem?_getD, List.getElem?_set_ne (by omega), <- List.getD_eq_getElem?_getD]
theorem path_any {l k : List Box} (h : l.map Box.path = k.map Box.path) (p : Bs) : l.any (isP p) = k.any (isP p) := by
 have e : ∀ l : List Box, l.any (isP p) = (l.map Box.path).any (fun q => decide (q = p)) := fun l => by rw [List.any_map]; rfl
 rw [e, e, h]
theorem path_idx {l k : List Box} (h : l.map Box.path = k.map Box.path) (p : Bs) : l.findIdx (isP p) = k.findIdx (isP p) := by
 have e : ∀ l : List Box, l.findIdx (isP p) = (l.map Box.path).findIdx (fun q => decide (q = p)) := fun l => by rw [List.findIdx_map]; rfl
 rw [e, e, h]
theorem dl1_mono (l : List Box) (m : Mail) (t : Bs) (j : Nat) : (boxAt l j).mails.length <= (boxAt (dl1 l m t).1 j).mails.length := by
 unfold dl1
 split
 ·rename_i ha
  have hx := findIdx_isP ha
  split
  ·exact Nat.le_refl _
  ·simp only
   rw [boxAt_set hx]
   split
   ·rename_i e; subst e; simp
   ·exact Nat.le_refl _
 ·exact Nat.le_refl _
theorem dl1_self (l : List Box) (m : Mail) (t : Bs) (h : l.any (isP t) = true) : min 4 ((boxAt l (l.findIdx (isP t))).mails.length + 1) <= (boxAt (dl1 l m t).1 (l.findIdx (isP t))).mails.length := by
 have hx := findIdx_isP h
 unfold dl1
 rw [if_pos h]
 split
 ·rename_i h4; simp only; omega
 ·simp only
  rw [boxAt_set hx, if_pos rfl]
  simp; omega
theorem dlN_paths (m : Mail) : ∀ (tos : List Bs) (s : List Box × List Int), (dlN m tos s).1.map Box.path = s.1.map Box.path
 | [], s => rfl
 | t :: tos, s => by
   have := dlN_paths m tos (dlS m s t)
   simp only [dlN, List.foldl_cons] at this ⊢
   rw [this]
   exact dl1_paths s.1 m t
theorem dlN_mono (m : Mail) (j : Nat) : ∀ (tos : List Bs) (s : List Box × List Int), (boxAt s.1 j).mails.length <= (boxAt (dlN m tos s).1 j).mails.length
 | [], s => Nat.le_refl _
 | t :: tos, s => by
   have := dlN_mono m j tos (dlS m s t)
   simp only [dlN, List.foldl_cons] at this ⊢
   exact Nat.le_trans (dl1_mono s.1 m t j) this
theorem dlN_self (m : Mail) (u : Bs) : ∀ (tos : List Bs) (s : List Box × List Int), u ∈ tos -> s.1.any (isP u) = true →
 min 4 ((boxAt s.1 (s.1.findIdx (isP u))).mails.length + 1) <= (boxAt (dlN m tos s).1 (s.1.findIdx (isP u))).mails.length
 | [], s, h, _ => by simp at h
 | t :: tos, s, h, ha => by
   have hp := dl1_paths s.1 m t
   by_cases e : u = t
   ·subst e
    have h1 := dl1_self s.1 m u ha
    have h2 := dlN_mono m (s.1.findIdx (isP u)) tos (dlS m s u)
    simp only [dlN, List.foldl_cons] at h2 ⊢
    exact Nat.le_trans h1 h2
   ·have hm : u ∈ tos := by
     rcases List.mem_cons.1 h with h | h
     ·exact absurd h e
     ·exact h
    have h1 := dlN_self m u tos (dlS m s t) hm (by show (dl1 s.1 m t).1.any _ = true; rw [path_any hp]; exact ha)
    have h2 := dl1_mono s.1 m t (s.1.findIdx (isP u))
    have e2 : (dlS m s t).1.findIdx (isP u) = s.1.findIdx (isP u) := path_idx hp u
    rw [e2] at h1
    simp only [dlN, List.foldl_cons] at h1 ⊢
    have e3 : (boxAt (dlS m s t).1 (s.1.findIdx (isP u))).mails.length = (boxAt (dl1 s.1 m t).1 (s.1.findIdx (isP u))).mails.length := rfl
    omega
def LevX (j : Nat) (l : List Box) (tos : List Bs) : Prop := ∀ u ∈ tos, l.any (isP u) = true -> min 4 j <= (boxAt l (l.findIdx (isP u))).mails.length
theorem LevX.next {j : Nat} {l : List Box} {m : Mail} (h : LevX j l m.to) : LevX (j + 1) (dlN m m.to (l, [])).1 m.to := fun u hu ha => by
 have hp := dlN_paths m m.to (l, [])
 rw [path_any hp] at ha
 rw [path_idx hp]
 have h1 := dlN_self m u m.to (l, []) hu ha
 have h2 := h u hu ha
 simp only at h1 ⊢
 omega
end Go.Proofs.YtpmpggihngmnoaaGreatDoor.Q
