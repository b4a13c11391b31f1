/- Contracts and laws: drawn sessions that are the same; mails without repeated names. -/
import Derived.Test.YtpmpggihngmnoaaGreatDoorScriptSayC82speaksayZ
namespace Go.Proofs.YtpmpggihngmnoaaGreatDoor.Q
open Go Go.AM
set_option linter.unusedSimpArgs false
set_option linter.unusedVariables false
set_option linter.unusedSectionVars false
def normA : List Bs -> List Bs -> List Bs
 | acc, [] => acc
 | acc, t :: l => normA (if t ∈ acc then acc else acc ++ [t]) l
def norM (m : Mail) : Mail := ⟨m.from_, normA [] m.to, m.lines⟩
def norR (m : Mail) : Mail := if mailT m 1 30 = true then norM m else ⟨[], [], []⟩
def AsM (v : V) (m : Mail) : Prop := ∃ x y, v = .agg [.str m.from_, x, y] /\ strip x = .sl false (vT m.to) /\ strip y = .sl false (vT m.lines)
end Go.Proofs.YtpmpggihngmnoaaGreatDoor.Q
