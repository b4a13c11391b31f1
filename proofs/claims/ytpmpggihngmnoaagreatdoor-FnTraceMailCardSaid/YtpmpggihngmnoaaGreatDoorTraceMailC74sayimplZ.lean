/- Contracts: a dialogue, as the program tells it. -/
import Derived.Test.YtpmpggihngmnoaaGreatDoorTraceMailC72sayZ
namespace Go.Proofs.YtpmpggihngmnoaaGreatDoor.Q
open Go Go.AM
set_option linter.unusedSimpArgs false
set_option linter.unusedVariables false
set_option linter.unusedSectionVars false
theorem CloneT_c (l : List Bs) (h : l.length <= 2000000) : pc id_slices_Clone___string_string_ [.sl false (vT l)] = some (.sl true (vT l)) := by
 have a1 : appV false 1 16 [] (.sl false (vT l)) = some (.sl true (vT ([] ++ l))) := v_app 1 16 [] false (vT l) rfl (vT_esz _) (by rw [vT_len]; simp; omega)
 rw [List.nil_append] at a1
 refine pc_of (H := []) ?_ (by simp only [evv]) (by simp only [evv])
 show cv _ _ _ = _
 rw [slices_Clone___string_string__eq]
 cases l with
 | nil =>
   have e : vNilEqV .eql (.sl false (vT [])) = some .ub := rfl
   have a2 : appV false 1 16 [] (.sl false (vT [])) = some (.sl true []) := a1
   simp only [evv, e, a2]
   rfl
 | cons a l =>
   have e : vNilEqV .eql (.sl false (vT (a :: l))) = some (.bool false) := rfl
   simp only [evv, e, a1]
theorem copyMail_c (m : Mail) (h : SmM m) : pc id_impl_copyMail [.agg (cM m)] = some (.agg (cO m)) := by
 have a1 := CloneT_c m.to (by have := h.2.1.1; omega)
 have a2 := CloneT_c m.lines (by have := h.2.2.1; omega)
 refine pc_of (H := []) ?_ (by simp only [evv]) (by simp only [evv, cO_e])
 show cv _ _ _ = _
 rw [impl_copyMail_eq]
 simp only [evv, a1, a2, cO_e]
end Go.Proofs.YtpmpggihngmnoaaGreatDoor.Q
