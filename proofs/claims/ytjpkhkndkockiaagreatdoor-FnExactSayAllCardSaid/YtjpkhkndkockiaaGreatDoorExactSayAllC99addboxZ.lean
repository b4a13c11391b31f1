/- Contracts: mailboxes are added, the program's way. -/
import Derived.Test.YtjpkhkndkockiaaGreatDoorExactSayAllC98splitZ
import Derived.Test.YtjpkhkndkockiaaGreatDoorFnExactSayAllK4
namespace Go.Proofs.YtjpkhkndkockiaaGreatDoor.Q
open Go Go.AM
set_option linter.unusedSimpArgs false
set_option linter.unusedVariables false
set_option linter.unusedSectionVars false
end Go.Proofs.YtjpkhkndkockiaaGreatDoor.Q
