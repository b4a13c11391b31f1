/- Contracts: a dialogue, as the program tells it. -/
import Derived.Test.YtpbgpeojlfdpoaaDoorExactSplitMailC72sayZ
namespace Go.Proofs.YtpbgpeojlfdpoaaDoor.Q
open Go Go.AM
set_option linter.unusedSimpArgs false
set_option linter.unusedVariables false
set_option linter.unusedSectionVars false
theorem ana (l:List Bs) (h:l.length<=2000000):pc D8 [.sl false (vT l)]=some (.sl true (vT l)):=by
 have a1:F1 false 1 16 [] (.sl false (vT l))=some (.sl true (vT ([]++l))):=adV 1 16 [] false (vT l) rfl (W6 _) (by rw [P3]; simp; omega)
 rw [List.nil_append] at a1
 refine ahI (H:=[]) ?_ (by simp only [b9]) (by simp only [b9])
 show cv _ _ _=_
 rw [abQ]
 cases l with
 | nil =>
   have e:ad8 .eql (.sl false (vT []))=some .ub:=rfl
   have a2:F1 false 1 16 [] (.sl false (vT []))=some (.sl true []):=a1
   simp only [b9,e,a2]
   rfl
 | cons a l =>
   have e:ad8 .eql (.sl false (vT (a::l)))=some (.bool false):=rfl
   simp only [b9,e,a1]
end Go.Proofs.YtpbgpeojlfdpoaaDoor.Q
