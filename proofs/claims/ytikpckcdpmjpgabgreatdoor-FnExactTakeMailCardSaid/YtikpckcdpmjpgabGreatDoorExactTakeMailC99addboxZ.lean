/- Contracts: mailboxes are added, the program's way. -/
import Derived.Test.YtikpckcdpmjpgabGreatDoorExactTakeMailC98splitZ
import Derived.Test.YtikpckcdpmjpgabGreatDoorFnExactTakeMailK4
namespace Go.Proofs.YtikpckcdpmjpgabGreatDoor.Q
open Go Go.AM
set_option linter.unusedSimpArgs false
set_option linter.unusedVariables false
set_option linter.unusedSectionVars false
end Go.Proofs.YtikpckcdpmjpgabGreatDoor.Q
