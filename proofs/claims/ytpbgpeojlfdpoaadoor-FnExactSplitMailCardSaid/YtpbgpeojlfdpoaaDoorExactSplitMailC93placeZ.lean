/- Contracts: a path's place among mailboxes in order. -/
import Derived.Test.YtpbgpeojlfdpoaaDoorExactSplitMailC92deliverZ
namespace Go.Proofs.YtpbgpeojlfdpoaaDoor.Q
open Go Go.AM
set_option linter.unusedSimpArgs false
set_option linter.unusedVariables false
set_option linter.unusedSectionVars false
end Go.Proofs.YtpbgpeojlfdpoaaDoor.Q
