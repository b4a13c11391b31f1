/- Contracts: mails come to mailboxes, the program's way. -/
import Derived.Test.YtpbgpeojlfdpoaaDoorExactSplitMailC93placeZ
namespace Go.Proofs.YtpbgpeojlfdpoaaDoor.Q
open Go Go.AM
set_option linter.unusedSimpArgs false
set_option linter.unusedVariables false
set_option linter.unusedSectionVars false
theorem asP (l:List u4) (m:j0) (to:Bs) (j:Nat):(F7 (dl1 l m to).1 j).path=(F7 l j).path:=by
 unfold dl1
 split
 ·rename_i ha
  have hx:=ac0 ha
  split
  ·rfl
  ·simp only
   by_cases hj:j=l.findIdx (S8 to)
   ·subst hj
    rw [adj (by simpa using hx),List.getElem_set_self]
   ·unfold F7
    rw [List.getD_eq_getElem?_getD,List.getElem?_set_ne (by omega),<-List.getD_eq_getElem?_getD]
 ·rfl
end Go.Proofs.YtpbgpeojlfdpoaaDoor.Q
