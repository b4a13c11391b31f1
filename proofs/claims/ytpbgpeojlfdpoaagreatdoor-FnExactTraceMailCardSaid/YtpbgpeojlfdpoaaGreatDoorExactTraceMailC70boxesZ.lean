/- Contracts: valid mailboxes, and how many mails they hold. -/
import Derived.Test.YtpbgpeojlfdpoaaGreatDoorExactTraceMailC66sessionsZ
namespace Go.Proofs.YtpbgpeojlfdpoaaGreatDoor.Q
open Go Go.AM
set_option linter.unusedSimpArgs false
set_option linter.unusedVariables false
set_option linter.unusedSectionVars false
def ltT (a b:Bs):Bool:=Op.bytesLess a b
def H9 (l:List z7) (i:Nat):z7:=l.getD i ⟨[],[]⟩
theorem aed {l:List z7} {i:Nat} (h:i<l.length):H9 l i=l[i]:=by
 unfold H9
 rw [List.getD_eq_getElem?_getD,List.getElem?_eq_getElem h]; rfl
def azm (l:List z7) (i:Nat):Bool := !L6 (H9 l i).path||(decide (4<(H9 l i).D2.length)||((decide (0<i) && !ltT (H9 l (i-1)).path (H9 l i).path)||(H9 l i).D2.any fun m => !U8 m 1 30))
def axq (l:List z7):Bool:=decide (l.length<=8) && !(List.range l.length).any (azm l)
end Go.Proofs.YtpbgpeojlfdpoaaGreatDoor.Q
