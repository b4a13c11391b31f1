/- Contracts: valid mailboxes, and how many mails they hold. -/
import Derived.Test.YtpmpggihngmnoaaGreatDoorScriptSayC68sizeZ
namespace Go.Proofs.YtpmpggihngmnoaaGreatDoor.Q
open Go Go.AM
set_option linter.unusedSimpArgs false
set_option linter.unusedVariables false
set_option linter.unusedSectionVars false
def ltT (a b : Bs) : Bool := Op.bytesLess a b
def boxAt (l : List Box) (i : Nat) : Box := l.getD i ⟨[], []⟩
theorem boxAt_get {l : List Box} {i : Nat} (h : i < l.length) : boxAt l i = l[i] := by
 unfold boxAt
 rw [List.getD_eq_getElem?_getD, List.getElem?_eq_getElem h]; rfl
def badX (l : List Box) (i : Nat) : Bool := !pathT (boxAt l i).path || (decide (4 < (boxAt l i).mails.length) || ((decide (0 < i) && !ltT (boxAt l (i - 1)).path (boxAt l i).path) || (boxAt l i).mails.any fun m => !mailT m 1 30))
def boxesT (l : List Box) : Bool := decide (l.length <= 8) && !(List.range l.length).any (badX l)
def heldN (l : List Box) : Nat := (l.map fun b => b.mails.length).sum
def cheldN (l : List Box) : Nat := if boxesT l = true then heldN l else 0
end Go.Proofs.YtpmpggihngmnoaaGreatDoor.Q
