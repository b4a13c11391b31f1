/- The law: clearing is complete. -/
import Derived.Test.YtncekccimhohgaaGreatDoorScriptClearCf3datelineZ
import Derived.Test.YtncekccimhohgaaGreatDoorFnScriptClearK5
namespace Go.Proofs.YtncekccimhohgaaGreatDoor.Q
open Go Go.AM
set_option linter.unusedSimpArgs false
set_option linter.unusedVariables false
set_option linter.unusedSectionVars false
def ab : Bs := [97, 64, 98]
def bx1 : V := .sl false [[.str ab, .sl false []]]
def sess1 : List V := [.int .i64 1, .str [120], .str [], .sl true [], .sl true [], .sl true []]
def okT : Bs := [111, 107, 10]
set_option maxRecDepth 100000 in
theorem c_box : cv id_impl_gate_line [.ptr 0 0, .str [98, 111, 120, 32, 97, 64, 98]] [cG (.sl true []) sess0 dt0] = some (.str okT, [cG bx1 sess0 dt0]) := callE_of 100 (by kernel_rfl)
set_option maxRecDepth 100000 in
theorem c_helo (d : Dt) : cv id_impl_gate_line [.ptr 0 0, .str [115, 97, 121, 32, 72, 69, 76, 79, 32, 120]] [cG bx1 sess0 d] = some (.str [50, 53, 48, 32, 111, 107, 10], [cG bx1 sess1 d]) := callE_of 100 (by kernel_rfl)
set_option maxRecDepth 100000 in
theorem c_mail : cv id_impl_gate_line [.ptr 0 0, .str [115, 97, 121, 32, 77, 65, 73, 76, 32, 70, 82, 79, 77, 58, 60, 62]] [cG bx1 sess0 dt0] = some (.str [53, 48, 51, 32, 110, 111, 116, 32, 110, 111, 119, 10], [cG bx1 sess0 dt0]) := callE_of 100 (by kernel_rfl)
set_option maxRecDepth 100000 in
theorem c_done : cv id_impl_gate_line [.ptr 0 0, .str [100, 111, 110, 101]] [cG bx1 sess0 dt0] = some (.str [100, 111, 110, 101, 32, 48, 10], [cG bx1 sess0 dt0]) := callE_of 100 (by kernel_rfl)
theorem g_st14 (b a0 a1 a2 a3 a4 a5 z0 z1 z2 z3 z4 z5 z6 c0 c1 c2 c3 c4 c5 c6 c7 c8 c9 c10 c11 c12 c13 : V) : stO (.ptr 0 0) [c0, c1, c2, c3, c4, c5, c6, c7, c8, c9, c10, c11, c12, c13] [[b, a0, a1, a2, a3, a4, a5, z0, z1, z2, z3, z4, z5, z6]] = some [[c0, c1, c2, c3, c4, c5, c6, c7, c8, c9, c10, c11, c12, c13]] := by exact id rfl
theorem clear_c (b s0 s1 s2 s3 s4 s5 : V) (d : Dt) : cv id_impl_gate_line [.ptr 0 0, .str [99, 108, 101, 97, 114]] [cG b [s0, s1, s2, s3, s4, s5] d] = some (.str okT, [cG (.sl true []) sess0 dt0]) := by
 have e0 := Cut_c [99, 108, 101, 97, 114] 32 (by simp)
 have h1 : cutA 32 [99, 108, 101, 97, 114] = [99, 108, 101, 97, 114] := by decide
 have h2 : cutZ 32 [99, 108, 101, 97, 114] = [] := by decide
 rw [h1, h2, decide_eq_false (by decide)] at e0
 have n1 : ¬ (([99, 108, 101, 97, 114] : Bs) = [115, 97, 121]) := by decide
 have n2 : ¬ (([99, 108, 101, 97, 114] : Bs) = [111, 112, 101, 110]) := by decide
 have g := newGate_c
 simp only [cG, sess0, cD_e, app_cons', app_nil'] at g
 have hw : cv id_impl_gate_wordLine [.ptr 0 0, .str [99, 108, 101, 97, 114]] [cG b [s0, s1, s2, s3, s4, s5] d] = some (.str okT, [cG (.sl true []) sess0 dt0]) := by
  rw [impl_gate_wordLine_eq]
  simp only [cG, sess0, okT, cD_e, app_cons', app_nil', evv, decide_eq_true_eq, n1, n2, if_false, g, ag_14, g_st14]
 rw [impl_gate_line_eq]
 simp only [evv, e0, hw]
theorem FnScriptClear_v (u : V) (h : HasArg (.sl (.int .u8)) u) : ∃ H, cv id_laws_FnScriptClear [u] [] = some (.bool true, H) := by
 obtain ⟨xs, rfl⟩ := (arg_bytes h).imp fun _ q => q.1
 suffices hg : Gets (cv id_laws_FnScriptClear [.sl false (vB xs)] []) fun r => r.1 = .bool true by
  obtain ⟨⟨v, H⟩, e, h⟩ := hg
  cases h
  exact ⟨H, e⟩
 rw [laws_FnScriptClear_eq]
 simp only [evv, decide_eq_true_eq]
 refine Gets.ite (fun h => ?_) (fun h => ?_)
 ·exact Gets.here rfl
 ·refine (DrawFormatDate_g xs).bind ?_
  rintro _ H1 ⟨d, rfl⟩
  have s1 := impl_FormatDate_c d
  have s2 := spec_FormatDate_c d
  by_cases hv : validT d = true
  ·obtain ⟨h10, hne, hlen⟩ := fmtD_no hv
   have hf : fmtT d = fmtD d := by unfold fmtT; rw [if_pos hv]
   rw [hf] at s1 s2
   have g1 := gate_date_c bx1 (.int .i64 0) (.str []) (.str []) (.sl true []) (.sl true []) (.sl true []) dt0 d hv
   have g2 := clear_c bx1 (.int .i64 1) (.str [120]) (.str []) (.sl true []) (.sl true []) (.sl true []) d
   have hsp : splitB 10 ([98, 111, 120, 32, 97, 64, 98, 10, 100, 97, 116, 101, 32] ++ fmtD d ++ [10, 115, 97, 121, 32, 72, 69, 76, 79, 32, 120, 10, 99, 108, 101, 97, 114, 10, 98, 111, 120, 32, 97, 64, 98, 10, 115, 97, 121, 32, 77, 65, 73, 76, 32, 70, 82, 79, 77, 58, 60, 62, 10, 100, 111, 110, 101, 10]) = [[98, 111, 120, 32, 97, 64, 98], dateW ++ fmtD d, [115, 97, 121, 32, 72, 69, 76, 79, 32, 120], [99, 108, 101, 97, 114], [98, 111, 120, 32, 97, 64, 98], [115, 97, 121, 32, 77, 65, 73, 76, 32, 70, 82, 79, 77, 58, 60, 62], [100, 111, 110, 101], []] := by
    have a1 : [98, 111, 120, 32, 97, 64, 98, 10, 100, 97, 116, 101, 32] ++ fmtD d ++ [10, 115, 97, 121, 32, 72, 69, 76, 79, 32, 120, 10, 99, 108, 101, 97, 114, 10, 98, 111, 120, 32, 97, 64, 98, 10, 115, 97, 121, 32, 77, 65, 73, 76, 32, 70, 82, 79, 77, 58, 60, 62, 10, 100, 111, 110, 101, 10] = [98, 111, 120, 32, 97, 64, 98] ++ 10 :: ((dateW ++ fmtD d) ++ 10 :: [115, 97, 121, 32, 72, 69, 76, 79, 32, 120, 10, 99, 108, 101, 97, 114, 10, 98, 111, 120, 32, 97, 64, 98, 10, 115, 97, 121, 32, 77, 65, 73, 76, 32, 70, 82, 79, 77, 58, 60, 62, 10, 100, 111, 110, 101, 10]) := by simp [dateW]
    rw [a1, splitB_at (by decide), splitB_at (by simp only [List.mem_append, not_or]; exact ⟨by decide, h10⟩)]
    congr 2
   have st : Steps [[98, 111, 120, 32, 97, 64, 98], dateW ++ fmtD d, [115, 97, 121, 32, 72, 69, 76, 79, 32, 120], [99, 108, 101, 97, 114], [98, 111, 120, 32, 97, 64, 98], [115, 97, 121, 32, 77, 65, 73, 76, 32, 70, 82, 79, 77, 58, 60, 62], [100, 111, 110, 101], []] [cG (.sl true []) sess0 dt0] (okT ++ ((fmtD d ++ [10]) ++ ([50, 53, 48, 32, 111, 107, 10] ++ (okT ++ (okT ++ ([53, 48, 51, 32, 110, 111, 116, 32, 110, 111, 119, 10] ++ ([100, 111, 110, 101, 32, 48, 10] ++ []))))))) [cG bx1 sess0 dt0] :=
    .step (by simp) c_box (.step (by simp [dateW]) g1 (.step (by simp) (c_helo d) (.step (by simp) g2 (.step (by simp) c_box (.step (by simp) c_mail (.step (by simp) c_done (.skip (.nil _))))))))
   have fin := RunScript_c hsp (by simp; omega) (by simp) st (by simp [okT]; omega)
   have t1 := t_add .str [98, 111, 120, 32, 97, 64, 98, 10, 100, 97, 116, 101, 32] (fmtD d) (by simp; omega)
   have t2 := t_add .str ([98, 111, 120, 32, 97, 64, 98, 10, 100, 97, 116, 101, 32] ++ fmtD d) [10, 115, 97, 121, 32, 72, 69, 76, 79, 32, 120, 10, 99, 108, 101, 97, 114, 10, 98, 111, 120, 32, 97, 64, 98, 10, 115, 97, 121, 32, 77, 65, 73, 76, 32, 70, 82, 79, 77, 58, 60, 62, 10, 100, 111, 110, 101, 10] (by simp; omega)
   have t3 := t_add .str [111, 107, 10] (fmtD d) (by simp; omega)
   have t4 := t_add .str ([111, 107, 10] ++ fmtD d) [10, 50, 53, 48, 32, 111, 107, 10, 111, 107, 10, 111, 107, 10, 53, 48, 51, 32, 110, 111, 116, 32, 110, 111, 119, 10, 100, 111, 110, 101, 32, 48, 10] (by simp; omega)
   have ho : okT ++ ((fmtD d ++ [10]) ++ ([50, 53, 48, 32, 111, 107, 10] ++ (okT ++ (okT ++ ([53, 48, 51, 32, 110, 111, 116, 32, 110, 111, 119, 10] ++ ([100, 111, 110, 101, 32, 48, 10] ++ [])))))) = [111, 107, 10] ++ fmtD d ++ [10, 50, 53, 48, 32, 111, 107, 10, 111, 107, 10, 111, 107, 10, 53, 48, 51, 32, 110, 111, 116, 32, 110, 111, 119, 10, 100, 111, 110, 101, 32, 48, 10] := by simp [okT]
   rw [ho] at fin
   rw [cD_e] at s1 s2 ⊢
   clear ho st g1 g2 hsp
   generalize fmtD d = F at *
   simp only [List.cons_append, List.nil_append] at t1 t2 t3 t4 fin
   simp only [evv, s1, s2, hne, t1, t2, t3, t4, fin]
   exact Gets.here rfl
  ·have hf : fmtT d = [] := by unfold fmtT; rw [if_neg hv]
   rw [hf] at s1 s2
   rw [cD_e] at s1 s2 ⊢
   simp only [evv, s1, s2]
   exact Gets.here rfl
end Go.Proofs.YtncekccimhohgaaGreatDoor.Q
