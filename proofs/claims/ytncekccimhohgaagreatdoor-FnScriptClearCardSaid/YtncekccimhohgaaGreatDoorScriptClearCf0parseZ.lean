/- Contracts: digits, times and zones that are read. -/
import Derived.Test.YtncekccimhohgaaGreatDoorScriptClearCd0scriptZ
import Derived.Test.YtncekccimhohgaaGreatDoorFnScriptClearK5
namespace Go.Proofs.YtncekccimhohgaaGreatDoor.Q
open Go Go.AM
set_option linter.unusedSimpArgs false
set_option linter.unusedVariables false
set_option linter.unusedSectionVars false
def digV (s : Bs) : Nat := s.foldl (fun n b => 10 * n + (b.toNat - 48)) 0
theorem digV_app (a : Bs) (b : UInt8) : digV (a ++ [b]) = 10 * digV a + (b.toNat - 48) := by simp [digV]
theorem digV_le : ∀ (i : Nat) (s : Bs), (s.all fun b => digB b.toNat) = true -> digV (s.take i) < 10 ^ i
 | 0, s, _ => by simp [digV]
 | i + 1, s, h => by
   by_cases hi : i < s.length
   ·have ih := digV_le i s h
    rw [List.take_succ_eq_append_getElem hi, digV_app]
    have hd := List.all_eq_true.1 h _ (List.getElem_mem hi)
    simp only [digB, decide_eq_true_eq] at hd
    have : 10 ^ (i + 1) = 10 * 10 ^ i := by rw [Nat.pow_succ, Nat.mul_comm]
    omega
   ·rw [List.take_of_length_le (by omega)]
    have ih := digV_le i s h
    rw [List.take_of_length_le (by omega)] at ih
    have : 10 ^ (i + 1) = 10 * 10 ^ i := by rw [Nat.pow_succ, Nat.mul_comm]
    omega
theorem n_subU (tk : TK) (a : Nat) (h1 : 48 <= a) (h2 : a <= 255) : vBinV tk .sub (.int .u8 (a : Int)) (.int .u8 48) = some (.int .u8 ((a - 48 : Nat) : Int)) := by
 have e : (a : Int) - 48 = ((a - 48 : Nat) : Int) := by omega
 have w := IntWalk.u8_in ((a - 48 : Nat) : Int) ⟨by omega, by omega⟩
 simp [vBinV, toA, vBin, vIntOp, ofA, e, w]
theorem digits_c (s : Bs) (lo hi : Int) (hs : s.length <= 6) (hd : (s.all fun b => digB b.toNat) = true) (h1 : lo <= s.length) (h2 : (s.length : Int) <= hi) :
 qc id_impl_digits [.str s, .int .i64 lo, .int .i64 hi] = some (.tup [.int .i64 (digV s : Nat), .bool true]) := by
 suffices h : Gets (cv id_impl_digits [.str s, .int .i64 lo, .int .i64 hi] []) fun r => r.1 = .tup [.int .i64 (digV s : Nat), .bool true] by
  obtain ⟨⟨v, H⟩, e, h⟩ := h
  have h : v = _ := h
  subst h
  exact qc_of e (by simp only [evv]) (by simp only [evv])
 have e1 := between_c (s.length : Int) lo hi
 rw [decide_eq_true ⟨h1, h2⟩] at e1
 have e2 := allBytes_c id_impl_isDigit digB (fun c => isDigit_c c) s (by omega)
 rw [hd] at e2
 rw [impl_digits_eq]
 simp only [evv, e1, e2]
 refine Gets.loop2 (I := fun n st H => ∃ i : Nat, n = s.length - i /\ i <= s.length /\ st = [.str s, .int .i64 (digV (s.take i) : Nat), .int .i64 (s.length : Nat), .int .i64 (i : Nat)])
  (P := fun q vs H => q = 0 /\ vs = [.int .i64 (digV s : Nat)]) (n := s.length) ?_ ⟨0, by omega, by omega, rfl⟩ ?_
 ·rintro n st H ⟨i, rfl, hi', rfl⟩
  rw [impl_digits_l5_eq]
  by_cases hlt : i < s.length
  ·have hb := digV_le i s hd
   have hp : 10 ^ i <= 10 ^ 6 := Nat.pow_le_pow_right (by omega) (by omega)
   have hdi := List.all_eq_true.1 hd _ (List.getElem_mem hlt)
   simp only [digB, decide_eq_true_eq] at hdi
   have m1 : vBinV (.int .i64) .mul (.int .i64 10) (.int .i64 (digV (s.take i) : Nat)) = some (.int .i64 ((10 * digV (s.take i) : Nat) : Int)) := n_mulN _ 10 _ (by omega)
   have i1 := t_idx s .i64 i hlt
   have s1 := n_subU (.int .u8) s[i].toNat (by omega) (by omega)
   have c1 := c_u8i64 (s[i].toNat - 48) (by omega)
   have a1 : vBinV (.int .i64) .add (.int .i64 ((10 * digV (s.take i) : Nat) : Int)) (.int .i64 ((s[i].toNat - 48 : Nat) : Int)) = some (.int .i64 ((10 * digV (s.take i) + (s[i].toNat - 48) : Nat) : Int)) := n_addN _ _ _ (by omega)
   have a2 : vBinV (.int .i64) .add (.int .i64 (i : Nat)) (.int .i64 1) = some (.int .i64 ((i + 1 : Nat) : Int)) := n_addN _ i 1 (by omega)
   simp only [evv, m1, i1, s1, c1, a1, a2, show ((i : Nat) : Int) < (s.length : Int) from by omega]
   exact Gets.here (.inr ⟨rfl, s.length - (i + 1), by omega, i + 1, rfl, by omega, by rw [List.take_succ_eq_append_getElem hlt, digV_app]⟩)
  ·have : i = s.length := by omega
   subst this
   simp only [evv, List.take_length, show ¬ ((s.length : Nat) : Int) < (s.length : Int) from by omega]
   exact Gets.here (.inl ⟨0, rfl, rfl, rfl⟩)
 rintro _ _ H ⟨rfl, rfl⟩
 simp only [evv]
 exact Gets.here rfl
theorem dec1 : ∀ n : Nat, n < 32 -> 1 <= n -> (decide (1 <= (decT n 1).length /\ (decT n 1).length <= 2) && ((decT n 1).all fun b => digB b.toNat) && decide (digV (decT n 1) = n)) = true := by decide +kernel
theorem dec2 : ∀ n : Nat, n < 100 -> (decide ((decT n 2).length = 2) && ((decT n 2).all fun b => digB b.toNat) && decide (digV (decT n 2) = n)) = true := by decide +kernel
theorem dec4 : ∀ k : Nat, k < 130 -> (decide ((decT (1970 + k) 4).length = 4) && ((decT (1970 + k) 4).all fun b => digB b.toNat) && decide (digV (decT (1970 + k) 4) = 1970 + k)) = true := by decide +kernel
theorem two_of {s : Bs} (h : s.length = 2) : ∃ a b, s = [a, b] := by
 match s, h with
 | [a, b], _ => exact ⟨a, b, rfl⟩
def zoneT (z : Int) : Bs := (if z < 0 then 45 else 43) :: (decT (z.natAbs / 60) 2 ++ decT (z.natAbs % 60) 2)
theorem parseZone_c (z : Int) (h1 : -720 <= z) (h2 : z <= 840) : qc id_impl_parseZone [.str (zoneT z)] = some (.tup [.int .i64 z, .bool true]) := by
 have d1 := dec2 (z.natAbs / 60) (by omega)
 have d2 := dec2 (z.natAbs % 60) (by omega)
 simp only [Bool.and_eq_true, decide_eq_true_eq] at d1 d2
 obtain ⟨⟨l1, a1⟩, v1⟩ := d1
 obtain ⟨⟨l2, a2⟩, v2⟩ := d2
 obtain ⟨x, y, e1⟩ := two_of l1
 obtain ⟨u, v, e2⟩ := two_of l2
 have g1 := digits_c (decT (z.natAbs / 60) 2) 2 2 (by omega) a1 (by omega) (by omega)
 have g2 := digits_c (decT (z.natAbs % 60) 2) 2 2 (by omega) a2 (by omega) (by omega)
 rw [v1] at g1
 rw [v2] at g2
 unfold zoneT
 rw [e1] at g1 ⊢
 rw [e2] at g2 ⊢
 have m1 : vBinV (.int .i64) .mul (.int .i64 60) (.int .i64 ((z.natAbs / 60 : Nat) : Int)) = some (.int .i64 ((60 * (z.natAbs / 60) : Nat) : Int)) := n_mulN _ 60 _ (by omega)
 have m2 : vBinV (.int .i64) .add (.int .i64 ((60 * (z.natAbs / 60) : Nat) : Int)) (.int .i64 ((z.natAbs % 60 : Nat) : Int)) = some (.int .i64 ((z.natAbs : Nat) : Int)) := by
  rw [n_addN _ _ _ (by omega)]
  congr 3; omega
 have m3 := n_neg (a := ((z.natAbs : Nat) : Int)) (by omega) (by omega)
 have hle : ((z.natAbs % 60 : Nat) : Int) <= 59 := by omega
 refine qc_of (H := []) ?_ (by simp only [evv]) (by simp only [evv])
 show cv _ _ _ = _
 rw [impl_parseZone_eq]
 by_cases hz : z < 0
 ·have i0 : vIndexSV (.str [45, x, y, u, v]) (.int .i64 0) = some (.int .u8 45) := rfl
  have s1 : vSliceSV (.str [45, x, y, u, v]) (some (.int .i64 1)) (some (.int .i64 3)) = some (.str [x, y]) := rfl
  have s2 : vSliceSV (.str [45, x, y, u, v]) (some (.int .i64 3)) none = some (.str [u, v]) := rfl
  rw [if_pos hz]
  simp only [List.cons_append, List.nil_append]
  have hn : -((z.natAbs : Nat) : Int) = z := by omega
  rw [hn] at m3
  have n1 : ¬ (([45, x, y, u, v] : Bs) = [71, 77, 84]) := by simp
  have n0 : ((([45, x, y, u, v] : Bs).length : Nat) : Int) = 5 := rfl
  have n2 : ¬ (([45, x, y, u, v] : Bs) = [85, 84]) := by simp
  have n3 : ¬ ((45 : Int) = 43) := by decide
  simp only [evv, i0, s1, s2, g1, g2, m1, m2, m3, hle, n0, n1, n2, n3]
 ·have i0 : vIndexSV (.str [43, x, y, u, v]) (.int .i64 0) = some (.int .u8 43) := rfl
  have s1 : vSliceSV (.str [43, x, y, u, v]) (some (.int .i64 1)) (some (.int .i64 3)) = some (.str [x, y]) := rfl
  have s2 : vSliceSV (.str [43, x, y, u, v]) (some (.int .i64 3)) none = some (.str [u, v]) := rfl
  rw [if_neg hz]
  simp only [List.cons_append, List.nil_append]
  have hn : ((z.natAbs : Nat) : Int) = z := by omega
  have n1 : ¬ (([43, x, y, u, v] : Bs) = [71, 77, 84]) := by simp
  have n0 : ((([43, x, y, u, v] : Bs).length : Nat) : Int) = 5 := rfl
  have n2 : ¬ (([43, x, y, u, v] : Bs) = [85, 84]) := by simp
  have n3 : ¬ ((43 : Int) = 45) := by decide
  simp only [evv, i0, s1, s2, g1, g2, m1, m2, hle, n0, n1, n2, n3]
  rw [hn]
end Go.Proofs.YtncekccimhohgaaGreatDoor.Q
