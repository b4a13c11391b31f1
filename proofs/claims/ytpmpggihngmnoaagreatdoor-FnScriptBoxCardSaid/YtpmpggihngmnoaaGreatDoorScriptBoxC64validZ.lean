/- Contracts: rows of valid mails. -/
import Derived.Test.YtpmpggihngmnoaaGreatDoorScriptBoxC62speakZ
namespace Go.Proofs.YtpmpggihngmnoaaGreatDoor.Q
open Go Go.AM
set_option linter.unusedSimpArgs false
set_option linter.unusedVariables false
set_option linter.unusedSectionVars false
end Go.Proofs.YtpmpggihngmnoaaGreatDoor.Q
