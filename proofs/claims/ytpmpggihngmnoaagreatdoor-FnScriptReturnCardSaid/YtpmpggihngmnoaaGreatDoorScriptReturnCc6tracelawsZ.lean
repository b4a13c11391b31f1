/- The laws of traces. -/
import Derived.Test.YtpmpggihngmnoaaGreatDoorScriptReturnCc5traceZ
namespace Go.Proofs.YtpmpggihngmnoaaGreatDoor.Q
open Go Go.AM
set_option linter.unusedSimpArgs false
set_option linter.unusedVariables false
set_option linter.unusedSectionVars false
def plB (s : Bs) : Bool := s.all fun b => !wrB b.toNat
def trI (m : Mail) (l : Bs) (i : Nat) : Mail := ⟨m.from_, m.to, List.replicate i l ++ m.lines⟩
theorem cM_inj_e (m : Mail) (o : List V) (h : stripL o = cM m) : stripL o = [.str m.from_, .sl false (vT m.to), .sl false (vT m.lines)] := by rw [h, cM_e]
theorem agg3 (a b c : V) : aggNV 3 (.agg [a, b, c]) = some [a, b, c] := by exact id rfl
end Go.Proofs.YtpmpggihngmnoaaGreatDoor.Q
