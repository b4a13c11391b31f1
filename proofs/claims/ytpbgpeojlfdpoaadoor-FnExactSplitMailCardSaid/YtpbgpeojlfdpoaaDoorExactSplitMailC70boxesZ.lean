/- Contracts: valid mailboxes, and how many mails they hold. -/
import Derived.Test.YtpbgpeojlfdpoaaDoorExactSplitMailC66sessionsZ
namespace Go.Proofs.YtpbgpeojlfdpoaaDoor.Q
open Go Go.AM
set_option linter.unusedSimpArgs false
set_option linter.unusedVariables false
set_option linter.unusedSectionVars false
def ltT (a b:Bs):Bool:=Op.bytesLess a b
def F7 (l:List u4) (i:Nat):u4:=l.getD i ⟨[],[]⟩
theorem adj {l:List u4} {i:Nat} (h:i<l.length):F7 l i=l[i]:=by
 unfold F7
 rw [List.getD_eq_getElem?_getD,List.getElem?_eq_getElem h]; rfl
def ax0 (l:List u4) (i:Nat):Bool := !J5 (F7 l i).path||(decide (4<(F7 l i).y5.length)||((decide (0<i) && !ltT (F7 l (i-1)).path (F7 l i).path)||(F7 l i).y5.any fun m => !F4 m 1 30))
def avV (l:List u4):Bool:=decide (l.length<=8) && !(List.range l.length).any (ax0 l)
end Go.Proofs.YtpbgpeojlfdpoaaDoor.Q
