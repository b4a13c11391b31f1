/- Contracts: mailboxes are added, the program's way. -/
import Derived.Test.YtikpckcdpmjpgabGreatDoorExactDeliverMailC98splitZ
import Derived.Test.YtikpckcdpmjpgabGreatDoorFnExactDeliverMailK4
namespace Go.Proofs.YtikpckcdpmjpgabGreatDoor.Q
open Go Go.AM
set_option linter.unusedSimpArgs false
set_option linter.unusedVariables false
set_option linter.unusedSectionVars false
end Go.Proofs.YtikpckcdpmjpgabGreatDoor.Q
