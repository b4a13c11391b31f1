/- Contracts: numbers as texts, days, dates. -/
import Derived.Test.YtpbgpeojlfdpoaaGreatDoorScriptAddressC60hopsZ
import Derived.Test.YtpbgpeojlfdpoaaGreatDoorFnScriptAddressK4
namespace Go.Proofs.YtpbgpeojlfdpoaaGreatDoor.Q
open Go Go.AM
set_option linter.unusedSimpArgs false
set_option linter.unusedVariables false
set_option linter.unusedSectionVars false
theorem aki (k:IntKind) (n:Int):A6 (.int k n)=some (.int k n):=by exact id rfl
end Go.Proofs.YtpbgpeojlfdpoaaGreatDoor.Q
