/- Contracts: mails are traced. -/
import Derived.Test.YtpmpggihngmnoaaGreatDoorScriptSayCc3formatZ
import Derived.Test.YtpmpggihngmnoaaGreatDoorFnScriptSayK4
namespace Go.Proofs.YtpmpggihngmnoaaGreatDoor.Q
open Go Go.AM
set_option linter.unusedSimpArgs false
set_option linter.unusedVariables false
set_option linter.unusedSectionVars false
def recBy : Bs := [82, 101, 99, 101, 105, 118, 101, 100, 58, 32, 98, 121, 32]
def lineT (h : Bs) (d : Dt) : Bs := recBy ++ h ++ [59, 32] ++ fmtD d
def traceB (m : Mail) (h : Bs) (d : Dt) : Bool := mailT m 1 30 && (validT d && (domT h && (!decide (m.lines.length = 30) && !decide (5 <= hopsN m.lines))))
def traceM (m : Mail) (h : Bs) (d : Dt) : Mail := if traceB m h d = true then ⟨m.from_, m.to, lineT h d :: m.lines⟩ else ⟨[], [], []⟩
end Go.Proofs.YtpmpggihngmnoaaGreatDoor.Q
