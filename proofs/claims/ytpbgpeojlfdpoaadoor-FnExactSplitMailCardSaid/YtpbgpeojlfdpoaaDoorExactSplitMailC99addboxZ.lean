/- Contracts: mailboxes are added, the program's way. -/
import Derived.Test.YtpbgpeojlfdpoaaDoorExactSplitMailC98splitZ
import Derived.Test.YtpbgpeojlfdpoaaDoorFnExactSplitMailK4
namespace Go.Proofs.YtpbgpeojlfdpoaaDoor.Q
open Go Go.AM
set_option linter.unusedSimpArgs false
set_option linter.unusedVariables false
set_option linter.unusedSectionVars false
end Go.Proofs.YtpbgpeojlfdpoaaDoor.Q
