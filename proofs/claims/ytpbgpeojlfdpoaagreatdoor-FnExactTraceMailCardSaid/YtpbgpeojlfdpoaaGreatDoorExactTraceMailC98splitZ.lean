/- Contracts: a mail for each domain. -/
import Derived.Test.YtpbgpeojlfdpoaaGreatDoorExactTraceMailC97boxlawsZ
namespace Go.Proofs.YtpbgpeojlfdpoaaGreatDoor.Q
open Go Go.AM
set_option linter.unusedSimpArgs false
set_option linter.unusedVariables false
set_option linter.unusedSectionVars false
def HoM (v:V) (H:VH) (l:List s8):Prop:=(l=[]/\v = .sl true [])\/(l ≠ []/\∃ k,v = .o9 k 0 l.length 3/\H[k]? = some (vO l).flatten)
theorem HoM.ne {v:V} {H:VH} {l:List s8} (h:HoM v H l) (hne:l ≠ []):∃ k,v = .o9 k 0 l.length 3/\H[k]? = some (vO l).flatten:=by
 rcases h with ⟨h,_⟩ | ⟨_,h⟩
 ·exact absurd h hne
 ·exact h
theorem HoM.snoc {v:V} {H:VH} {l:List s8} (h:HoM v H l) (c:List V):HoM v (H++[c]) l:=by
 rcases h with h | ⟨hne,k,rfl,hk⟩
 ·exact .inl h
 ·exact .inr ⟨hne,k,rfl,by rw [List.getElem?_append_left (List.getElem?_eq_some_iff.1 hk).1]; exact hk⟩
section
variable {k i:Nat} {H:VH} {l:List s8} (hk:H[k]? = some (vO l).flatten) (hi:i<l.length)
include hk hi
end
end Go.Proofs.YtpbgpeojlfdpoaaGreatDoor.Q
