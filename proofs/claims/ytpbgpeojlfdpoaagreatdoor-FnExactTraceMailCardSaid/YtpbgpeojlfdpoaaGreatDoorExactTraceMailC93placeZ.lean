/- Contracts: a path's place among mailboxes in order. -/
import Derived.Test.YtpbgpeojlfdpoaaGreatDoorExactTraceMailC92deliverZ
namespace Go.Proofs.YtpbgpeojlfdpoaaGreatDoor.Q
open Go Go.AM
set_option linter.unusedSimpArgs false
set_option linter.unusedVariables false
set_option linter.unusedSectionVars false
end Go.Proofs.YtpbgpeojlfdpoaaGreatDoor.Q
