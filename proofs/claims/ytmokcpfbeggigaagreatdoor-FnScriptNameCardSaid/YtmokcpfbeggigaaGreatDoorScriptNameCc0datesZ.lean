/- Contracts: numbers as texts, days, dates. -/
import Derived.Test.YtmokcpfbeggigaaGreatDoorScriptNameC62speakZ
import Derived.Test.YtmokcpfbeggigaaGreatDoorFnScriptNameK4
namespace Go.Proofs.YtmokcpfbeggigaaGreatDoor.Q
open Go Go.AM
set_option linter.unusedSimpArgs false
set_option linter.unusedVariables false
set_option linter.unusedSectionVars false
theorem ajm (k:IntKind) (n:Int):C3 (.int k n)=some (.int k n):=by exact id rfl
end Go.Proofs.YtmokcpfbeggigaaGreatDoor.Q
