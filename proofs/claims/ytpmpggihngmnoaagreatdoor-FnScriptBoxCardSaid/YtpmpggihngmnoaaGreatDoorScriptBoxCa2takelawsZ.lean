/- Contracts: the laws of mails that are taken. -/
import Derived.Test.YtpmpggihngmnoaaGreatDoorScriptBoxCa1takeZ
import Derived.Test.YtpmpggihngmnoaaGreatDoorFnScriptBoxK4
namespace Go.Proofs.YtpmpggihngmnoaaGreatDoor.Q
open Go Go.AM
set_option linter.unusedSimpArgs false
set_option linter.unusedVariables false
set_option linter.unusedSectionVars false
end Go.Proofs.YtpmpggihngmnoaaGreatDoor.Q
