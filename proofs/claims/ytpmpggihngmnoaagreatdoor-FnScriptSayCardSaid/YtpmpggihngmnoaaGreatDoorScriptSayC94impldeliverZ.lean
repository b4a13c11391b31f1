/- Contracts: mails come to mailboxes, the program's way. -/
import Derived.Test.YtpmpggihngmnoaaGreatDoorScriptSayC93placeZ
namespace Go.Proofs.YtpmpggihngmnoaaGreatDoor.Q
open Go Go.AM
set_option linter.unusedSimpArgs false
set_option linter.unusedVariables false
set_option linter.unusedSectionVars false
theorem dl1_path (l : List Box) (m : Mail) (to : Bs) (j : Nat) : (boxAt (dl1 l m to).1 j).path = (boxAt l j).path := by
 unfold dl1
 split
 ·rename_i ha
  have hx := findIdx_isP ha
  split
  ·rfl
  ·simp only
   by_cases hj : j = l.findIdx (isP to)
   ·subst hj
    rw [boxAt_get (by simpa using hx), List.getElem_set_self]
   ·unfold boxAt
    rw [List.getD_eq_getElem?_getD, List.getElem?_set_ne (by omega), <- List.getD_eq_getElem?_getD]
 ·rfl
end Go.Proofs.YtpmpggihngmnoaaGreatDoor.Q
