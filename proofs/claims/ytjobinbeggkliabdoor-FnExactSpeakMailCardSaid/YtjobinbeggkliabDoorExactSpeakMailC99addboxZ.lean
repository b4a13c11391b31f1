/- Contracts: mailboxes are added, the program's way. -/
import Derived.Test.YtjobinbeggkliabDoorExactSpeakMailC98splitZ
import Derived.Test.YtjobinbeggkliabDoorFnExactSpeakMailK4
namespace Go.Proofs.YtjobinbeggkliabDoor.Q
open Go Go.AM
set_option linter.unusedSimpArgs false
set_option linter.unusedVariables false
set_option linter.unusedSectionVars false
end Go.Proofs.YtjobinbeggkliabDoor.Q
