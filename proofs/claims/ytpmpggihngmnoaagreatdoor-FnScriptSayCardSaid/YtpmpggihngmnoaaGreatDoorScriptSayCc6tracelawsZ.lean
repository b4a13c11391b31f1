/- The laws of traces. -/
import Derived.Test.YtpmpggihngmnoaaGreatDoorScriptSayCc5traceZ
namespace Go.Proofs.YtpmpggihngmnoaaGreatDoor.Q
open Go Go.AM
set_option linter.unusedSimpArgs false
set_option linter.unusedVariables false
set_option linter.unusedSectionVars false
def plB (s : Bs) : Bool := s.all fun b => !wrB b.toNat
def trI (m : Mail) (l : Bs) (i : Nat) : Mail := ⟨m.from_, m.to, List.replicate i l ++ m.lines⟩
end Go.Proofs.YtpmpggihngmnoaaGreatDoor.Q
