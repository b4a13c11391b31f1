/- Contracts: mailboxes in new memory, and where a path is. -/
import Derived.Test.YtpmpggihngmnoaaGreatDoorScriptSayC86fdrawsZ
import Derived.Test.YtpmpggihngmnoaaGreatDoorFnScriptSayK5
namespace Go.Proofs.YtpmpggihngmnoaaGreatDoor.Q
open Go Go.AM
set_option linter.unusedSimpArgs false
set_option linter.unusedVariables false
set_option linter.unusedSectionVars false
def cOx (b : Box) : List V := [.str b.path, .sl true (vO b.mails)]
theorem eX_e (b : Box) : eX.e b = [.str b.path, .sl false (vR eM b.mails)] := by exact id rfl
def vOX (l : List Box) : List (List V) := l.map cOx
theorem vOX_len (l : List Box) : (vOX l).length = l.length := by simp [vOX]
theorem cOx_strip (b : Box) : stripL (cOx b) = eX.e b := by simp only [cOx, eX_e, stripL, strip, vO_strip]
theorem vOX_strip : ∀ l : List Box, stripLL (vOX l) = vR eX l
 | [] => rfl
 | m :: l => by
   show stripL (cOx m) :: stripLL (vOX l) = _
   rw [vOX_strip l, cOx_strip]; rfl
theorem vOX_esz (l : List Box) : eszOk 2 (vOX l) = true := by simp [eszOk, vOX, cOx]
theorem vOX_data : ∀ l : List Box, dataLL (vOX l) = true
 | [] => rfl
 | m :: l => by
   show (dataL (cOx m) && dataLL (vOX l)) = true
   rw [vOX_data l, Bool.and_true]
   simp only [cOx, dataL, data, vO_data, Bool.and_self]
theorem vOX_rows (l : List Box) : Go.AM.Rows 2 (vOX l) := fun x hx => by
 obtain ⟨b, _, rfl⟩ := List.mem_map.1 hx
 rfl
def isP (p : Bs) (b : Box) : Bool := decide (b.path = p)
end Go.Proofs.YtpmpggihngmnoaaGreatDoor.Q
