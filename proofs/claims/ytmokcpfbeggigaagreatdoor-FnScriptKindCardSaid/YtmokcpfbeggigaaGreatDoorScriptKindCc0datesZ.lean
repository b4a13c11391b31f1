/- Contracts: numbers as texts, days, dates. -/
import Derived.Test.YtmokcpfbeggigaaGreatDoorScriptKindC62speakZ
import Derived.Test.YtmokcpfbeggigaaGreatDoorFnScriptKindK4
namespace Go.Proofs.YtmokcpfbeggigaaGreatDoor.Q
open Go Go.AM
set_option linter.unusedSimpArgs false
set_option linter.unusedVariables false
set_option linter.unusedSectionVars false
theorem akE (k:IntKind) (n:Int):y3 (.int k n)=some (.int k n):=by exact id rfl
end Go.Proofs.YtmokcpfbeggigaaGreatDoor.Q
