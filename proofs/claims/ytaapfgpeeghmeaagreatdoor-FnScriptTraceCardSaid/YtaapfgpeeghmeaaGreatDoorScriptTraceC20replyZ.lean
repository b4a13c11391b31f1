/- Contracts: replies. -/
import Derived.Test.YtaapfgpeeghmeaaGreatDoorScriptTraceC16specwordsZ
namespace Go.Proofs.YtaapfgpeeghmeaaGreatDoor.Q
open Go Go.AM
set_option linter.unusedSimpArgs false
set_option linter.unusedVariables false
set_option linter.unusedSectionVars false
end Go.Proofs.YtaapfgpeeghmeaaGreatDoor.Q
