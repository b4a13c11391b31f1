/- Contracts: a dialogue, as the program tells it. -/
import Derived.Test.YtpbgpeojlfdpoaaGreatDoorExactTraceMailC72sayZ
namespace Go.Proofs.YtpbgpeojlfdpoaaGreatDoor.Q
open Go Go.AM
set_option linter.unusedSimpArgs false
set_option linter.unusedVariables false
set_option linter.unusedSectionVars false
theorem apc (l:List Bs) (h:l.length<=2000000):pc F3 [.sl false (vT l)]=some (.sl true (vT l)):=by
 have a1:Q9 false 1 16 [] (.sl false (vT l))=some (.sl true (vT ([]++l))):=akS 1 16 [] false (vT l) rfl (aaY _) (by rw [U9]; simp; omega)
 rw [List.nil_append] at a1
 refine ahi (H:=[]) ?_ (by simp only [g9]) (by simp only [g9])
 show cv _ _ _=_
 rw [acj]
 cases l with
 | nil =>
   have e:aeN .eql (.sl false (vT []))=some .ub:=rfl
   have a2:Q9 false 1 16 [] (.sl false (vT []))=some (.sl true []):=a1
   simp only [g9,e,a2]
   rfl
 | cons a l =>
   have e:aeN .eql (.sl false (vT (a::l)))=some (.bool false):=rfl
   simp only [g9,e,a1]
theorem ard (m:s8) (h:SmM m):pc acf [.agg (cM m)]=some (.agg (cO m)):=by
 have a1:=apc m.to (by have:=h.2.1.1; omega)
 have a2:=apc m.lines (by have:=h.2.2.1; omega)
 refine ahi (H:=[]) ?_ (by simp only [g9]) (by simp only [g9,Z0])
 show cv _ _ _=_
 rw [aki]
 simp only [g9,a1,a2,Z0]
end Go.Proofs.YtpbgpeojlfdpoaaGreatDoor.Q
