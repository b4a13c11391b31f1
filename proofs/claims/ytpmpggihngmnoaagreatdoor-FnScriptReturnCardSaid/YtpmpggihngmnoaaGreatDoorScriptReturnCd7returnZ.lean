/- The law: scripts return mails that go round. -/
import Derived.Test.YtpmpggihngmnoaaGreatDoorScriptReturnCd6breturnZ
namespace Go.Proofs.YtpmpggihngmnoaaGreatDoor.Q
open Go Go.AM
set_option linter.unusedSimpArgs false
set_option linter.unusedVariables false
set_option linter.unusedSectionVars false
theorem FnScriptReturn_v (u u2 : V) (h : HasArg (.sl (.int .u8)) u) (h2 : HasArg (.sl (.int .u8)) u2) : ∃ H, cv id_laws_FnScriptReturn [u, u2] [] = some (.bool true, H) := by
 obtain ⟨xs, rfl⟩ := argB h
 obtain ⟨ys, rfl⟩ := argB h2
 suffices hg : Gets (cv id_laws_FnScriptReturn [.sl false (vB xs), .sl false (vB ys)] []) fun r => r.1 = .bool true by
  obtain ⟨⟨v, H⟩, e, h⟩ := hg
  cases h
  exact ⟨H, e⟩
 obtain ⟨m, hm, hd⟩ := DrawCountHops_d xs
 have v1 := impl_CountHops_c m hm.sm
 have v2 := spec_CountHops_c m hm.sm
 simp only [cM_e] at v1 v2
 have hT : ([98, 111, 120, 32, 97, 64, 98, 10, 115, 97, 121, 32, 72, 69, 76, 79, 32, 120, 10, 115, 97, 121, 32, 77, 65, 73, 76, 32, 70, 82, 79, 77, 58, 60, 62, 10, 115, 97, 121, 32, 82, 67, 80, 84, 32, 84, 79, 58, 60, 97, 64, 98, 62, 10, 115, 97, 121, 32, 68, 65, 84, 65, 10] : Bs) = T0 := rfl
 have hE : ([115, 97, 121, 32, 46, 10, 112, 97, 115, 115, 10, 104, 101, 108, 100, 10] : Bs) = TE := rfl
 have hN : ([114, 101, 116, 117, 114, 110, 101, 100, 10, 101, 110, 100, 10, 104, 101, 108, 100, 32, 48, 10] : Bs) = endN := rfl
 have hY : ([112, 97, 115, 115, 101, 100, 32, 50, 53, 48, 10, 101, 110, 100, 10, 104, 101, 108, 100, 32, 49, 10] : Bs) = endY := rfl
 rw [laws_FnScriptReturn_eq, hT, hE, hN, hY]
 by_cases c1 : (xs.length : Int) > 1048576
 ·simp only [evv, c1]; exact Gets.here rfl
 ·by_cases c2 : (ys.length : Int) > 1048576
  ·simp only [evv, c1, c2]; exact Gets.here rfl
  ·obtain ⟨H1, d1⟩ := hd []
   obtain ⟨H2, d2⟩ := hd H1
   have q1 : vBinV (.int .i64) .rem (.int .i64 (ys.length : Nat)) (.int .i64 8) = some (.int .i64 ((ys.length % 8 : Nat) : Int)) := n_remN _ ys.length 8 (by omega)
   simp only [evv, c1, c2, d1, d2, cO_e, v1, v2, b_neq, q1]
   have hk : ys.length % 8 < 8 := Nat.mod_lt _ (by omega)
   generalize ys.length % 8 = k at hk
   obtain ⟨A, hA, hAl, run⟩ := ret_run k hk
   have hRl : ∀ j, (RR j).length = 16 * j := fun j => by
    induction j with
    | zero => rfl
    | succ j ih => simp only [RR, List.length_append, ih, List.length_cons, List.length_nil]; omega
   have hTl : T0.length = 63 := rfl
   have hEl : TE.length = 16 := rfl
   refine Gets.loop2 (I := fun n st G => ∃ i : Nat, n = k - i /\ i <= k /\ st = [.str (T0 ++ RR i), .int .i64 (k : Nat), .int .i64 (i : Nat)])
    (P := fun q vs G => q = 0 /\ vs = [.str (T0 ++ RR k), .int .i64 (k : Nat)]) (n := k) ?_ ⟨0, by omega, by omega, by simp [RR]⟩ ?_
   ·rintro n st G ⟨i, rfl, hi, rfl⟩
    rw [laws_FnScriptReturn_l10_eq]
    by_cases hlt : i < k
    ·have t1 := t_add .str (T0 ++ RR i) [115, 97, 121, 32, 114, 101, 99, 101, 105, 118, 101, 100, 58, 32, 120, 10] (by simp only [List.length_append, hTl, hRl, List.length_cons, List.length_nil]; omega)
     have a1 : vBinV (.int .i64) .add (.int .i64 (i : Nat)) (.int .i64 1) = some (.int .i64 ((i + 1 : Nat) : Int)) := n_addN _ i 1 (by omega)
     simp only [evv, t1, a1, show ((i : Nat) : Int) < (k : Int) from by omega]
     exact Gets.here (.inr ⟨rfl, k - (i + 1), by omega, i + 1, rfl, by omega, by rw [List.append_assoc]; rfl⟩)
    ·have : i = k := by omega
     subst this
     simp only [evv, show ¬ ((i : Nat) : Int) < (i : Int) from by omega]
     exact Gets.here (.inl ⟨0, rfl, rfl, rfl⟩)
   ·rintro _ _ G ⟨rfl, rfl⟩
    have t2 := t_add .str (T0 ++ RR k) TE (by simp only [List.length_append, hTl, hRl, hEl]; omega)
    have fin : ∀ E : Bs, E.length = 23 ∨ E.length = 22 ∨ E.length = 21 ∨ E.length = 20 -> vBinV (.int .i64) .sub (.int .i64 ((A ++ E).length : Nat)) (.int .i64 (E.length : Nat)) = some (.int .i64 (A.length : Nat)) /\ vSliceSV (.str (A ++ E)) (some (.int .i64 (A.length : Nat))) none = some (.str E) /\ (((A ++ E).length : Nat) : Int) > (E.length : Nat) := fun E hE => by
     have hpos := List.length_pos_iff.2 hA
     refine ⟨?_, ?_, by simp; omega⟩
     ·have := n_subN (.int .i64) (A ++ E).length E.length (by simp) (by simp; omega)
      rw [this]; simp
     ·have := t_suf (A ++ E) .i64 A.length (by simp)
      rw [this, List.drop_left]
    by_cases h5 : 5 <= k
    ·rw [if_pos h5] at run
     obtain ⟨f1, f2, f3⟩ := fin endN (by decide)
     simp only [evv, t2, run, show ((k : Nat) : Int) ≥ 5 from by omega, f1, f2, f3]
     exact Gets.here rfl
    ·rw [if_neg h5] at run
     obtain ⟨f1, f2, f3⟩ := fin endY (by decide)
     simp only [evv, t2, run, show ¬ ((k : Nat) : Int) ≥ 5 from by omega, f1, f2, f3]
     exact Gets.here rfl
end Go.Proofs.YtpmpggihngmnoaaGreatDoor.Q
