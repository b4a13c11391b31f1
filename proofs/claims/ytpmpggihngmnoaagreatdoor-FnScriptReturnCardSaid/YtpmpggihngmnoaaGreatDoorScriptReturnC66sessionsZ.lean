/- Contracts: valid sessions. -/
import Derived.Test.YtpmpggihngmnoaaGreatDoorScriptReturnC64validZ
namespace Go.Proofs.YtpmpggihngmnoaaGreatDoor.Q
open Go Go.AM
set_option linter.unusedSimpArgs false
set_option linter.unusedVariables false
set_option linter.unusedSectionVars false
def stateT (st : Int) (host from_ : Bs) (to lines : Nat) : Bool := decide (st ≠ 5 -> ((host = []) ↔ (st = 0))) && (decide ((0 < to) ↔ (st = 3 ∨ st = 4)) && (decide (0 < lines -> st = 4) && decide (from_ = [] ∨ st = 2 ∨ st = 3 ∨ st = 4)))
def sessT (s : Session) : Bool := decide (0 <= s.state /\ s.state <= 5) && (mailT s.draft 0 31 && ((decide ((s.done.length : Int) <= 5) && !s.done.any fun m => !mailT m 1 30) && ((decide (s.host = []) || domT s.host) && stateT s.state s.host s.draft.from_ s.draft.to.length s.draft.lines.length)))
end Go.Proofs.YtpmpggihngmnoaaGreatDoor.Q
