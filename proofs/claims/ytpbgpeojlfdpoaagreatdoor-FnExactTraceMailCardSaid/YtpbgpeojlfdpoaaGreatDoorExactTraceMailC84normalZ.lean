/- Contracts and laws: drawn sessions that are the same; mails without repeated names. -/
import Derived.Test.YtpbgpeojlfdpoaaGreatDoorExactTraceMailC74sayimplZ
namespace Go.Proofs.YtpbgpeojlfdpoaaGreatDoor.Q
open Go Go.AM
set_option linter.unusedSimpArgs false
set_option linter.unusedVariables false
set_option linter.unusedSectionVars false
end Go.Proofs.YtpbgpeojlfdpoaaGreatDoor.Q
