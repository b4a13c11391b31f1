/- Contracts: a dialogue, as the program tells it. -/
import Derived.Test.YtpmpggihngmnoaaGreatDoorScriptBoxC72sayZ
namespace Go.Proofs.YtpmpggihngmnoaaGreatDoor.Q
open Go Go.AM
set_option linter.unusedSimpArgs false
set_option linter.unusedVariables false
set_option linter.unusedSectionVars false
end Go.Proofs.YtpmpggihngmnoaaGreatDoor.Q
