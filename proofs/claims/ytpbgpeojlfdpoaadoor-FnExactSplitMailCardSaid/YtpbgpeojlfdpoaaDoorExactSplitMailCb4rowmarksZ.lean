/- Contracts: lists of mails and of mailboxes, made and marked in memory. -/
import Derived.Test.YtpbgpeojlfdpoaaDoorExactSplitMailCb3rowsZ
import Derived.Test.YtpbgpeojlfdpoaaDoorFnExactSplitMailK4
namespace Go.Proofs.YtpbgpeojlfdpoaaDoor.Q
open Go Go.AM
set_option linter.unusedSimpArgs false
set_option linter.unusedVariables false
set_option linter.unusedSectionVars false
section
variable {α:Type} {P:VH->List Nat->List V->α->Prop} {e:Nat}
end
end Go.Proofs.YtpbgpeojlfdpoaaDoor.Q
