/- Contracts: mails are taken. -/
import Derived.Test.YtpmpggihngmnoaaGreatDoorScriptReturnC99addboxZ
import Derived.Test.YtpmpggihngmnoaaGreatDoorFnScriptReturnK4
namespace Go.Proofs.YtpmpggihngmnoaaGreatDoor.Q
open Go Go.AM
set_option linter.unusedSimpArgs false
set_option linter.unusedVariables false
set_option linter.unusedSectionVars false
def takeB (l : List Box) (p : Bs) : Bool := boxesT l && (l.any (isP p) && !decide ((boxAt l (l.findIdx (isP p))).mails.length = 0))
def takeL (l : List Box) (p : Bs) : List Box := if takeB l p = true then l.set (l.findIdx (isP p)) ⟨(boxAt l (l.findIdx (isP p))).path, (boxAt l (l.findIdx (isP p))).mails.drop 1⟩ else []
def takeM (l : List Box) (p : Bs) : Mail := if takeB l p = true then (boxAt l (l.findIdx (isP p))).mails.headD ⟨[], [], []⟩ else ⟨[], [], []⟩
def m0 : Mail := ⟨[], [], []⟩
end Go.Proofs.YtpmpggihngmnoaaGreatDoor.Q
