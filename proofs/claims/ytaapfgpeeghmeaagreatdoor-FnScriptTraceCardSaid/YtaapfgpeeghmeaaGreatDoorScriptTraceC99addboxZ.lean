/- Contracts: mailboxes are added, the program's way. -/
import Derived.Test.YtaapfgpeeghmeaaGreatDoorScriptTraceC98splitZ
import Derived.Test.YtaapfgpeeghmeaaGreatDoorFnScriptTraceK4
namespace Go.Proofs.YtaapfgpeeghmeaaGreatDoor.Q
open Go Go.AM
set_option linter.unusedSimpArgs false
set_option linter.unusedVariables false
set_option linter.unusedSectionVars false
end Go.Proofs.YtaapfgpeeghmeaaGreatDoor.Q
