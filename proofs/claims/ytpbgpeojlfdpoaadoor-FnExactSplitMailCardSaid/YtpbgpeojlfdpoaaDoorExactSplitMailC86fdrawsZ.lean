/- Contracts: draws that leave all but the reader as it was. -/
import Derived.Test.YtpbgpeojlfdpoaaDoorExactSplitMailC84normalZ
namespace Go.Proofs.YtpbgpeojlfdpoaaDoor.Q
open Go Go.AM
set_option linter.unusedSimpArgs false
set_option linter.unusedVariables false
set_option linter.unusedSectionVars false
def Rf (F:VH) (k b:Nat) (H:VH):Prop:=Rd k b H/\F.length<=H.length/\∀ j,j ≠ k->j<F.length->H[j]? = F[j]?
theorem Rf.le {F:VH} {k b b':Nat} {H:VH} (h:Rf F k b H) (hb:b<=b'):Rf F k b' H:=⟨h.1.le hb,h.2⟩
theorem Rf.refl {k b:Nat} {H:VH} (h:Rd k b H):Rf H k b H:=⟨h,Nat.le_refl _,fun _ _ _=>rfl⟩
theorem Rf.set {F:VH} {k b b':Nat} {H:VH} {x:List V} (h:Rf F k b H) (g:Rd k b' (H.set k x)):Rf F k b' (H.set k x) :=
 ⟨g,by rw [List.length_set]; exact h.2.1,fun j hj hl=>by rw [List.getElem?_set_ne (Ne.symm hj)]; exact h.2.2 j hj hl⟩
theorem Rf.trans {F G:VH} {k b b':Nat} {H:VH} (h:Rf F k b G) (g:Rf G k b' H):Rf F k b' H :=
 ⟨g.1,Nat.le_trans h.2.1 g.2.1,fun j hj hl=>by rw [g.2.2 j hj (by have:=h.2.1; omega)]; exact h.2.2 j hj hl⟩
end Go.Proofs.YtpbgpeojlfdpoaaDoor.Q
