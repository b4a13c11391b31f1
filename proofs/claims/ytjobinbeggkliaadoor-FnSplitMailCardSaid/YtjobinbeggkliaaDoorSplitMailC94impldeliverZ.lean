/- Contracts: mails come to mailboxes, the program's way. -/
import Derived.Test.YtjobinbeggkliaaDoorSplitMailC93placeZ
namespace Go.Proofs.YtjobinbeggkliaaDoor.Q
open Go Go.AM
set_option linter.unusedSimpArgs false
set_option linter.unusedVariables false
set_option linter.unusedSectionVars false
theorem dl1_path (l : List Box) (m : Mail) (to : Bs) (j : Nat) : (boxAt (dl1 l m to).1 j).path = (boxAt l j).path := by
  unfold dl1
  split
  · rename_i ha
    have hx := findIdx_isP ha
    split
    · rfl
    · simp only
      by_cases hj : j = l.findIdx (isP to)
      · subst hj
        rw [boxAt_get (by simpa using hx), List.getElem_set_self]
      · unfold boxAt
        rw [List.getD_eq_getElem?_getD, List.getElem?_set_ne (by omega), ← List.getD_eq_getElem?_getD]
  · rfl
theorem sort_dl1 {l : List Box} (h : SortX l) (m : Mail) (to : Bs) : SortX (dl1 l m to).1 := fun i j hij hj => by
  rw [dl1_path, dl1_path]
  exact h i j hij (by rw [dl1_len] at hj; exact hj)
theorem sort_dlN {m : Mail} : ∀ {tos : List Bs} {s : List Box × List Int}, SortX s.1 → SortX (dlN m tos s).1
  | [], s, h => h
  | t :: tos, s, h => by
    have := sort_dlN (m := m) (tos := tos) (s := dlS m s t) (sort_dl1 h m t)
    simpa [dlN] using this


end Go.Proofs.YtjobinbeggkliaaDoor.Q
