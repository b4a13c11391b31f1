/- Contracts: what FormatDate writes is what ParseDate reads. -/
import Derived.Test.YtncekccimhohgaaGreatDoorScriptClearCf0parseZ
import Derived.Test.YtncekccimhohgaaGreatDoorFnScriptClearK5
namespace Go.Proofs.YtncekccimhohgaaGreatDoor.Q
open Go Go.AM
set_option linter.unusedSimpArgs false
set_option linter.unusedVariables false
set_option linter.unusedSectionVars false
theorem splitB_at {a z : Bs} {c : UInt8} (h : c ∉ a) : splitB c (a ++ c :: z) = a :: splitB c z := by
 induction a with
 | nil => simp [splitB]
 | cons b a ih =>
   simp only [List.mem_cons, not_or] at h
   have ih := ih h.2
   simp only [List.cons_append, splitB, if_neg (Ne.symm h.1), ih]
theorem dig_no {s : Bs} {c : UInt8} (h : (s.all fun b => digB b.toNat) = true) (hc : digB c.toNat = false) : c ∉ s := fun hm => by
 have := List.all_eq_true.1 h c hm
 rw [hc] at this; cases this
theorem parseTime_c (h m s : Nat) (hh : h < 100) (hm : m < 100) (hs : s < 100) :
 pc id_impl_parseTime [.str (decT h 2 ++ 58 :: (decT m 2 ++ 58 :: decT s 2))] = some (.tup [.agg [.int .i64 (h : Nat), .int .i64 (m : Nat), .int .i64 (s : Nat)], .bool true]) := by
 have d1 := dec2 h hh
 have d2 := dec2 m hm
 have d3 := dec2 s hs
 simp only [Bool.and_eq_true, decide_eq_true_eq] at d1 d2 d3
 obtain ⟨⟨l1, a1⟩, v1⟩ := d1
 obtain ⟨⟨l2, a2⟩, v2⟩ := d2
 obtain ⟨⟨l3, a3⟩, v3⟩ := d3
 have g1 := digits_c (decT h 2) 2 2 (by omega) a1 (by omega) (by omega)
 have g2 := digits_c (decT m 2) 2 2 (by omega) a2 (by omega) (by omega)
 have g3 := digits_c (decT s 2) 2 2 (by omega) a3 (by omega) (by omega)
 rw [v1] at g1
 rw [v2] at g2
 rw [v3] at g3
 have hsp : splitB 58 (decT h 2 ++ 58 :: (decT m 2 ++ 58 :: decT s 2)) = [decT h 2, decT m 2, decT s 2] := by
  rw [splitB_at (dig_no a1 (by decide)), splitB_at (dig_no a2 (by decide)), splitB_no _ _ (dig_no a3 (by decide))]
 have e0 := Split_c (decT h 2 ++ 58 :: (decT m 2 ++ 58 :: decT s 2)) 58 (by simp; omega)
 rw [hsp] at e0
 generalize decT h 2 ++ 58 :: (decT m 2 ++ 58 :: decT s 2) = T at e0 ⊢
 generalize decT h 2 = A at *
 generalize decT m 2 = B at *
 generalize decT s 2 = C at *
 have e1 : qc id_impl_between [.int .i64 3, .int .i64 2, .int .i64 3] = some (.bool true) := between_c 3 2 3
 have o0 : stO (.ptr 0 0) [.int .i64 0, .int .i64 0, .int .i64 0] [[.int .i64 0, .int .i64 0, .int .i64 0]] = some [[.int .i64 0, .int .i64 0, .int .i64 0]] := rfl
 have j0 : vIdxV 1 (.sl false (vT [A, B, C])) (.int .i64 0) = some (.elt [.str A] 0) := rfl
 have j1 : vIdxV 1 (.sl false (vT [A, B, C])) (.int .i64 1) = some (.elt [.str B] 0) := rfl
 have j2 : vIdxV 1 (.sl false (vT [A, B, C])) (.int .i64 2) = some (.elt [.str C] 0) := rfl
 have x0 : vIdxAV 3 1 (.ptr 0 0) (.int .i64 0) = some (.ptr 0 0) := rfl
 have x1 : vIdxAV 3 1 (.ptr 0 0) (.int .i64 1) = some (.ptr 0 1) := rfl
 have x2 : vIdxAV 3 1 (.ptr 0 0) (.int .i64 2) = some (.ptr 0 2) := rfl
 have st0 : ∀ a b c v : V, stO (.ptr 0 0) [v] [[a, b, c]] = some [[v, b, c]] := fun _ _ _ _ => rfl
 have st1 : ∀ a b c v : V, stO (.ptr 0 1) [v] [[a, b, c]] = some [[a, v, c]] := fun _ _ _ _ => rfl
 have st2 : ∀ a b c v : V, stO (.ptr 0 2) [v] [[a, b, c]] = some [[a, b, v]] := fun _ _ _ _ => rfl
 have p0 : vBinV (.int .i64) .add (.int .i64 0) (.int .i64 1) = some (.int .i64 1) := n_addN _ 0 1 (by omega)
 have p1 : vBinV (.int .i64) .add (.int .i64 1) (.int .i64 1) = some (.int .i64 2) := n_addN _ 1 1 (by omega)
 have p2 : vBinV (.int .i64) .add (.int .i64 2) (.int .i64 1) = some (.int .i64 3) := n_addN _ 2 1 (by omega)
 have le3 : ldO globB false true 3 (.ptr 0 0) [[.int .i64 (h : Nat), .int .i64 (m : Nat), .int .i64 (s : Nat)]] = some (.agg [.int .i64 (h : Nat), .int .i64 (m : Nat), .int .i64 (s : Nat)], [[.int .i64 (h : Nat), .int .i64 (m : Nat), .int .i64 (s : Nat)]]) := rfl
 have lp : lpW' impl_parseTime_l5 [.ptr 0 0, .sl false (vT [A, B, C]), .int .i64 3, .int .i64 0, .int .i64 0, .int .i64 0, .int .i64 0] [[.int .i64 0, .int .i64 0, .int .i64 0]] = some (0, [.ptr 0 0, .int .i64 0, .int .i64 0, .int .i64 0], [[.int .i64 (h : Nat), .int .i64 (m : Nat), .int .i64 (s : Nat)]]) := by
  have r0 : impl_parseTime_l5 [.ptr 0 0, .sl false (vT [A, B, C]), .int .i64 3, .int .i64 0, .int .i64 0, .int .i64 0, .int .i64 0] [[.int .i64 0, .int .i64 0, .int .i64 0]] = some (none, [.ptr 0 0, .sl false (vT [A, B, C]), .int .i64 3, .int .i64 1, .int .i64 0, .int .i64 0, .int .i64 0], [[.int .i64 (h : Nat), .int .i64 0, .int .i64 0]]) := by
   rw [impl_parseTime_l5_eq]
   simp only [evv, j0, g1, x0, st0, p0, vo_int, show (0 : Int) < 3 from by omega]
  have r1 : impl_parseTime_l5 [.ptr 0 0, .sl false (vT [A, B, C]), .int .i64 3, .int .i64 1, .int .i64 0, .int .i64 0, .int .i64 0] [[.int .i64 (h : Nat), .int .i64 0, .int .i64 0]] = some (none, [.ptr 0 0, .sl false (vT [A, B, C]), .int .i64 3, .int .i64 2, .int .i64 0, .int .i64 0, .int .i64 0], [[.int .i64 (h : Nat), .int .i64 (m : Nat), .int .i64 0]]) := by
   rw [impl_parseTime_l5_eq]
   simp only [evv, j1, g2, x1, st1, p1, vo_int, show (1 : Int) < 3 from by omega]
  have r2 : impl_parseTime_l5 [.ptr 0 0, .sl false (vT [A, B, C]), .int .i64 3, .int .i64 2, .int .i64 0, .int .i64 0, .int .i64 0] [[.int .i64 (h : Nat), .int .i64 (m : Nat), .int .i64 0]] = some (none, [.ptr 0 0, .sl false (vT [A, B, C]), .int .i64 3, .int .i64 3, .int .i64 0, .int .i64 0, .int .i64 0], [[.int .i64 (h : Nat), .int .i64 (m : Nat), .int .i64 (s : Nat)]]) := by
   rw [impl_parseTime_l5_eq]
   simp only [evv, j2, g3, x2, st2, p2, vo_int, show (2 : Int) < 3 from by omega]
  have r3 : impl_parseTime_l5 [.ptr 0 0, .sl false (vT [A, B, C]), .int .i64 3, .int .i64 3, .int .i64 0, .int .i64 0, .int .i64 0] [[.int .i64 (h : Nat), .int .i64 (m : Nat), .int .i64 (s : Nat)]] = some (some 0, [.ptr 0 0, .int .i64 0, .int .i64 0, .int .i64 0], [[.int .i64 (h : Nat), .int .i64 (m : Nat), .int .i64 (s : Nat)]]) := by
   rw [impl_parseTime_l5_eq]
   simp only [evv, show ¬ ((3 : Int) < 3) from by omega]
  rw [lv_more r0, lv_more r1, lv_more r2, lv_stop r3]
 have hl : (([A, B, C] : List Bs).length : Int) = 3 := rfl
 refine pc_of (H := [[.int .i64 (h : Nat), .int .i64 (m : Nat), .int .i64 (s : Nat)]]) ?_ (by simp only [evv]) (by simp only [evv])
 show cv _ _ _ = _
 rw [impl_parseTime_eq]
 have h0 : ([] : VH).length = 0 := rfl
 simp only [evv, e0, h0, List.nil_append, o0, hl, e1]
 rw [lp]
 simp only [evv, le3]
end Go.Proofs.YtncekccimhohgaaGreatDoor.Q
