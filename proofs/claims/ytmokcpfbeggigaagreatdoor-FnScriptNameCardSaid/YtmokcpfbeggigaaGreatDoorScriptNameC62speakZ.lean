/- Contracts: mails spoken as lines. -/
import Derived.Test.YtmokcpfbeggigaaGreatDoorScriptNameC60hopsZ
namespace Go.Proofs.YtmokcpfbeggigaaGreatDoor.Q
open Go Go.AM
set_option linter.unusedSimpArgs false
set_option linter.unusedVariables false
set_option linter.unusedSectionVars false
end Go.Proofs.YtmokcpfbeggigaaGreatDoor.Q
