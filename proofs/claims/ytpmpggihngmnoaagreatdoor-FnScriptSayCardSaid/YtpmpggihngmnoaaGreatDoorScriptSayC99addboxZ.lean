/- Contracts: mailboxes are added, the program's way. -/
import Derived.Test.YtpmpggihngmnoaaGreatDoorScriptSayC98splitZ
import Derived.Test.YtpmpggihngmnoaaGreatDoorFnScriptSayK4
namespace Go.Proofs.YtpmpggihngmnoaaGreatDoor.Q
open Go Go.AM
set_option linter.unusedSimpArgs false
set_option linter.unusedVariables false
set_option linter.unusedSectionVars false
end Go.Proofs.YtpmpggihngmnoaaGreatDoor.Q
