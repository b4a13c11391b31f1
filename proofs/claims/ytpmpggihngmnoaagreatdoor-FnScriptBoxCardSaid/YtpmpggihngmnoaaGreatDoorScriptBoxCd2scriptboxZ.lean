/- The law: scripts add boxes. -/
import Derived.Test.YtpmpggihngmnoaaGreatDoorScriptBoxCd1scriptboxZ
namespace Go.Proofs.YtpmpggihngmnoaaGreatDoor.Q
open Go Go.AM
set_option linter.unusedSimpArgs false
set_option linter.unusedVariables false
set_option linter.unusedSectionVars false
theorem FnScriptBox_v (u : V) (h : HasArg (.sl (.int .u8)) u) : ∃ H, cv id_laws_FnScriptBox [u] [] = some (.bool true, H) := by
 obtain ⟨xs, rfl⟩ := argB h
 suffices hg : Gets (cv id_laws_FnScriptBox [.sl false (vB xs)] []) fun r => r.1 = .bool true by
  obtain ⟨⟨v, H⟩, e, h⟩ := hg
  cases h
  exact ⟨H, e⟩
 obtain ⟨o, r, p, e1, hp⟩ := DrawAddBox_path xs
 have hpl : p.length <= 200 := by
  simp only [List.mem_cons, List.not_mem_nil, or_false] at hp
  rcases hp with rfl | rfl | rfl | rfl | rfl | rfl <;> decide
 have hx : BoxOk p ∨ BoxNo p := by
  simp only [List.mem_cons, List.not_mem_nil, or_false] at hp
  rcases hp with rfl | rfl | rfl | rfl | rfl | rfl
  ·exact .inl box_ok1
  ·exact .inl box_ok2
  ·exact .inl box_ok3
  ·exact .inr box_no1
  ·exact .inr box_no2
  ·exact .inl box_ok4
 rw [laws_FnScriptBox_eq, show ([98, 111, 120, 32] : Bs) = bxT from rfl]
 simp only [evv, decide_eq_true_eq]
 refine Gets.ite (fun h => ?_) (fun h => ?_)
 ·exact Gets.here rfl
 ·have hb : bxT.length = 4 := rfl
  have t1 := t_add .str bxT p (by omega)
  rcases hx with q | q
  ·have r1 := RunScript_c q.sp (by simp; omega) (by simp) (.step (by simp [bxT]) q.b1 (.step (by simp [bxT]) q.b2 (.step (by simp [tkT]) q.b3 (.step (by simp [heldT]) q.b4 (.skip (.nil _)))))) (by decide)
   have t2 := t_add .str (bxT ++ p) [10, 98, 111, 120, 32] (by simp; omega)
   have t3 := t_add .str (bxT ++ p ++ [10, 98, 111, 120, 32]) p (by simp; omega)
   have t4 := t_add .str (bxT ++ p ++ [10, 98, 111, 120, 32] ++ p) [10, 116, 97, 107, 101, 32] (by simp; omega)
   have t5 := t_add .str (bxT ++ p ++ [10, 98, 111, 120, 32] ++ p ++ [10, 116, 97, 107, 101, 32]) p (by simp; omega)
   have t6 := t_add .str (bxT ++ p ++ [10, 98, 111, 120, 32] ++ p ++ [10, 116, 97, 107, 101, 32] ++ p) [10, 104, 101, 108, 100, 10] (by simp; omega)
   simp only [evv, e1, q.a1, q.a2, q.a3, show (10 :: bxT : Bs) = [10, 98, 111, 120, 32] from rfl, t1, t2, t3, t4, t5, t6, r1]
   exact Gets.here (congrArg V.bool (decide_eq_true (by rfl)))
  ·have r1 := RunScript_c q.sp (by simp; omega) (by simp) (.step (by simp [bxT]) q.b1 (.step (by simp [heldT]) q.b4 (.skip (.nil _)))) (by decide)
   have t2 := t_add .str (bxT ++ p) [10, 104, 101, 108, 100, 10] (by simp; omega)
   simp only [evv, e1, q.a1, q.a2, q.a3, t1, t2, r1]
   exact Gets.here (congrArg V.bool (decide_eq_true (by rfl)))
end Go.Proofs.YtpmpggihngmnoaaGreatDoor.Q
