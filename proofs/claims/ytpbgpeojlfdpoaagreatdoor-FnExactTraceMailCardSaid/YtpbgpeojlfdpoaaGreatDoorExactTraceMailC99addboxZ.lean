/- Contracts: mailboxes are added, the program's way. -/
import Derived.Test.YtpbgpeojlfdpoaaGreatDoorExactTraceMailC98splitZ
import Derived.Test.YtpbgpeojlfdpoaaGreatDoorFnExactTraceMailK4
namespace Go.Proofs.YtpbgpeojlfdpoaaGreatDoor.Q
open Go Go.AM
set_option linter.unusedSimpArgs false
set_option linter.unusedVariables false
set_option linter.unusedSectionVars false
end Go.Proofs.YtpbgpeojlfdpoaaGreatDoor.Q
