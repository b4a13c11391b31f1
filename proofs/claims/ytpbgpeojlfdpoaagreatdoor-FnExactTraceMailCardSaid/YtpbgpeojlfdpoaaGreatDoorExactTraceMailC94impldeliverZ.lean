/- Contracts: mails come to mailboxes, the program's way. -/
import Derived.Test.YtpbgpeojlfdpoaaGreatDoorExactTraceMailC93placeZ
namespace Go.Proofs.YtpbgpeojlfdpoaaGreatDoor.Q
open Go Go.AM
set_option linter.unusedSimpArgs false
set_option linter.unusedVariables false
set_option linter.unusedSectionVars false
theorem auD (l:List z7) (m:s8) (to:Bs) (j:Nat):(H9 (dl1 l m to).1 j).path=(H9 l j).path:=by
 unfold dl1
 split
 ·rename_i ha
  have hx:=adT ha
  split
  ·rfl
  ·simp only
   by_cases hj:j=l.findIdx (U4 to)
   ·subst hj
    rw [aed (by simpa using hx),List.getElem_set_self]
   ·unfold H9
    rw [List.getD_eq_getElem?_getD,List.getElem?_set_ne (by omega),<-List.getD_eq_getElem?_getD]
 ·rfl
end Go.Proofs.YtpbgpeojlfdpoaaGreatDoor.Q
