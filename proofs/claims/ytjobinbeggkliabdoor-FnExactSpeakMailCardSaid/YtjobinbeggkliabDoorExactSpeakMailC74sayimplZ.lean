/- Contracts: a dialogue, as the program tells it. -/
import Derived.Test.YtjobinbeggkliabDoorExactSpeakMailC72sayZ
namespace Go.Proofs.YtjobinbeggkliabDoor.Q
open Go Go.AM
set_option linter.unusedSimpArgs false
set_option linter.unusedVariables false
set_option linter.unusedSectionVars false
end Go.Proofs.YtjobinbeggkliabDoor.Q
