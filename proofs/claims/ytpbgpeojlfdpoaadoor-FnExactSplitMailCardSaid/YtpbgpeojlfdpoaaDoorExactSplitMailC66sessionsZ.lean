/- Contracts: valid sessions. -/
import Derived.Test.YtpbgpeojlfdpoaaDoorExactSplitMailC64validZ
namespace Go.Proofs.YtpbgpeojlfdpoaaDoor.Q
open Go Go.AM
set_option linter.unusedSimpArgs false
set_option linter.unusedVariables false
set_option linter.unusedSectionVars false
end Go.Proofs.YtpbgpeojlfdpoaaDoor.Q
