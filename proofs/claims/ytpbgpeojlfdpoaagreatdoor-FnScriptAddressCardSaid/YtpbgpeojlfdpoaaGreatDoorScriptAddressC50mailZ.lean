/- Contracts: valid mails. -/
import Derived.Test.YtpbgpeojlfdpoaaGreatDoorScriptAddressC40sessionZ
namespace Go.Proofs.YtpbgpeojlfdpoaaGreatDoor.Q
open Go Go.AM
set_option linter.unusedSimpArgs false
set_option linter.unusedVariables false
set_option linter.unusedSectionVars false
end Go.Proofs.YtpbgpeojlfdpoaaGreatDoor.Q
