/- Contracts: dates are valid, seconds of dates. -/
import Derived.Test.YtncekccimhohgaaGreatDoorScriptClearCc1daysZ
namespace Go.Proofs.YtncekccimhohgaaGreatDoor.Q
open Go Go.AM
set_option linter.unusedSimpArgs false
set_option linter.unusedVariables false
set_option linter.unusedSectionVars false
theorem between_c (n a b : Int) : qc id_impl_between [.int .i64 n, .int .i64 a, .int .i64 b] = some (.bool (decide (a <= n /\ n <= b))) := by
 refine qc_of (H := []) ?_ (by simp only [evv]) rfl
 show cv _ _ _ = _
 rw [impl_between_eq]
 by_cases h1 : a <= n <;> by_cases h2 : n <= b <;> simp [evv, h1, h2]
theorem isZone_c (n : Int) : qc id_impl_isZone [.int .i64 n] = some (.bool (decide (-720 <= n /\ n <= 840))) := by
 have e1 := between_c n (-720) 840
 refine qc_of (H := []) ?_ (by simp only [evv]) rfl
 show cv _ _ _ = _
 rw [impl_isZone_eq]
 simp only [evv, e1]
theorem daysBefore_c (y m d : Int) (hy : 1970 <= y /\ y <= 2099) (hm : 1 <= m /\ m <= 12) (hd : 1 <= d /\ d <= 31) : qc id_impl_daysBefore [.int .i64 y, .int .i64 m, .int .i64 d] = some (.int .i64 (dbI y m d)) := by
 obtain ⟨k, rfl⟩ : ∃ k : Nat, y = 1970 + k := ⟨(y - 1970).toNat, by omega⟩
 have inner : ∀ (i : Nat) (s : Int) (L : Nat) (H : VH), i <= 130 -> 0 <= s -> s <= 60000 -> L <= 12 -> (∀ j : Nat, 1 <= j -> ((j : Int) <= 12 /\ ((1970 + i : Int) < 1970 + k ∨ (j : Int) < m) ↔ j <= L)) →
  Gets (lpW' impl_daysBefore_l6 [.int .i64 (1970 + k), .int .i64 m, .int .i64 s, .int .i64 (1970 + i), .int .i64 1] H) fun r => r.1 = 0 /\ r.2.1 = [.int .i64 (1970 + k), .int .i64 m, .int .i64 (s + cumM (1970 + i) L), .int .i64 (1970 + i)] := by
  intro i s L H hi hs1 hs2 hL hc
  refine Gets.loop (I := fun n st H => ∃ j : Nat, n = L + 1 - j /\ 1 <= j /\ j <= L + 1 /\ st = [.int .i64 (1970 + k), .int .i64 m, .int .i64 (s + cumM (1970 + i) (j - 1)), .int .i64 (1970 + i), .int .i64 (j : Nat)])
   (Q := fun r => r.1 = 0 /\ r.2.1 = [.int .i64 (1970 + k), .int .i64 m, .int .i64 (s + cumM (1970 + i) L), .int .i64 (1970 + i)]) ?_ L _ H ⟨1, by omega, by omega, by omega, by simp [cumM]⟩
  rintro n st H ⟨j, rfl, hj1, hj2, rfl⟩
  rw [impl_daysBefore_l6_eq]
  have hcj := hc j hj1
  by_cases hlt : j <= L
  ·have e1 := impl_DaysOf_c (1970 + i) j
   have b1 := dimI_le (1970 + i) j
   have b2 := cumM_le (1970 + i) (j - 1)
   have e2 := n_add (.int .i64) (s + cumM (1970 + i) (j - 1)) (dimI (1970 + i) j) (by omega) (by omega)
   have e3 : vBinV (.int .i64) .add (.int .i64 (j : Int)) (.int .i64 1) = some (.int .i64 ((j + 1 : Nat) : Int)) := n_addN _ j 1 (by omega)
   have hcm : s + cumM (1970 + i) (j - 1) + dimI (1970 + i) j = s + cumM (1970 + i) (j + 1 - 1) := by
    obtain ⟨q, rfl⟩ : ∃ q, j = q + 1 := ⟨j - 1, by omega⟩
    simp only [Nat.add_sub_cancel, cumM]
    rw [Int.add_assoc]; rfl
   rw [hcm] at e2
   obtain ⟨c1, c2⟩ := hcj.2 hlt
   have fin : Gets (some ((none : Option Nat), [V.int .i64 (1970 + (k : Int)), .int .i64 m, .int .i64 (s + cumM (1970 + i) (j + 1 - 1)), .int .i64 (1970 + (i : Int)), .int .i64 ((j + 1 : Nat) : Int)], H)) fun r => match r.1 with | some m' => (m', r.2).1 = 0 /\ (m', r.2).2.1 = [V.int .i64 (1970 + (k : Int)), .int .i64 m, .int .i64 (s + cumM (1970 + i) L), .int .i64 (1970 + (i : Int))] | none => ∃ n', n' < L + 1 - j /\ ∃ j' : Nat, n' = L + 1 - j' /\ 1 <= j' /\ j' <= L + 1 /\ r.2.1 = [V.int .i64 (1970 + (k : Int)), .int .i64 m, .int .i64 (s + cumM (1970 + i) (j' - 1)), .int .i64 (1970 + (i : Int)), .int .i64 (j' : Nat)] :=
    Gets.here ⟨L + 1 - (j + 1), by omega, j + 1, rfl, by omega, by omega, rfl⟩
   by_cases h1 : (1970 + (i : Int)) < 1970 + (k : Int)
   ·simp only [evv, c1, h1, e1, e2, e3]
    exact fin
   ·have h2 : (j : Int) < m := by rcases c2 with c2 | c2; exact absurd c2 h1; exact c2
    simp only [evv, c1, h1, h2, e1, e2, e3]
    exact fin
  ·have hj : j = L + 1 := by omega
   subst hj
   have hn : ¬ ((((L + 1 : Nat) : Int) <= 12) /\ ((1970 + (i : Int)) < 1970 + (k : Int) ∨ ((L + 1 : Nat) : Int) < m)) := fun h => hlt (hcj.1 h)
   by_cases h0 : ((L + 1 : Nat) : Int) <= 12
   ·have h1 : ¬ (1970 + (i : Int)) < 1970 + (k : Int) := fun h => hn ⟨h0, .inl h⟩
    have h2 : ¬ ((L + 1 : Nat) : Int) < m := fun h => hn ⟨h0, .inr h⟩
    simp only [evv, h0, h1, h2]
    exact Gets.here ⟨rfl, rfl⟩
   ·simp only [evv, h0]
    exact Gets.here ⟨rfl, rfl⟩
 suffices h : Gets (cv id_impl_daysBefore [.int .i64 (1970 + k), .int .i64 m, .int .i64 d] []) fun r => r.1 = .int .i64 (dbI (1970 + k) m d) by
  obtain ⟨⟨v, H⟩, e, h⟩ := h
  have h : v = _ := h
  subst h
  exact qc_of e (by simp only [evv]) rfl
 have e0 := n_sub (.int .i64) d 1 (by omega) (by omega)
 rw [impl_daysBefore_eq]
 simp only [evv, e0]
 refine Gets.loop2 (I := fun n st H => ∃ i : Nat, n = k + 1 - i /\ i <= k + 1 /\ st = [.int .i64 (1970 + k), .int .i64 m, .int .i64 (if i <= k then d - 1 + cumY i else dbI (1970 + k) m d), .int .i64 (1970 + i)])
  (P := fun q vs H => q = 0 /\ vs = [.int .i64 (dbI (1970 + k) m d)]) (n := k + 1) ?_ ⟨0, by omega, by omega, by simp [cumY]⟩ ?_
 ·rintro n st H ⟨i, rfl, hi, rfl⟩
  rw [impl_daysBefore_l3_eq]
  by_cases hlt : i <= k
  ·have b1 := cumY_le i
   have e3 := n_add (.int .i64) (1970 + (i : Int)) 1 (by omega) (by omega)
   have hnext : (1970 + (i : Int)) + 1 = 1970 + ((i + 1 : Nat) : Int) := by omega
   rw [hnext] at e3
   simp only [evv, hlt, show (1970 + (i : Int)) <= 1970 + (k : Int) from by omega]
   by_cases hik : i = k
   ·subst hik
    refine (inner i (d - 1 + cumY i) (m - 1).toNat H (by omega) (by omega) (by omega) (by omega) (fun j hj => by omega)).bind ?_
    rintro ⟨q, vs, H'⟩ ⟨rfl, rfl⟩
    simp only [evv, e3]
    refine Gets.here (.inr ⟨rfl, 0, by omega, i + 1, by omega, by omega, ?_⟩)
    have : ¬ i + 1 <= i := by omega
    rw [if_neg this]
    have hd : dbI (1970 + i) m d = d - 1 + cumY i + cumM (1970 + i) (m - 1).toNat := by
     unfold dbI
     rw [show ((1970 + (i : Int)) - 1970).toNat = i by omega]
    rw [hd]
   ·refine (inner i (d - 1 + cumY i) 12 H (by omega) (by omega) (by omega) (by omega) (fun j hj => by omega)).bind ?_
    rintro ⟨q, vs, H'⟩ ⟨rfl, rfl⟩
    simp only [evv, e3]
    refine Gets.here (.inr ⟨rfl, k + 1 - (i + 1), by omega, i + 1, rfl, by omega, ?_⟩)
    rw [if_pos (by omega : i + 1 <= k), cumM_12 (y := 1970 + i) (by omega)]
    rw [show d - 1 + cumY i + (if leapI (1970 + (i : Int)) = true then 366 else 365) = d - 1 + cumY (i + 1) by simp only [cumY]; omega]
  ·have hik : i = k + 1 := by omega
   subst hik
   simp only [evv, hlt, show ¬ (1970 + ((k + 1 : Nat) : Int)) <= 1970 + (k : Int) from by omega]
   exact Gets.here (.inl ⟨0, rfl, rfl, rfl⟩)
 rintro _ _ H ⟨rfl, rfl⟩
 simp only [evv]
 exact Gets.here rfl
theorem secs_c (d : Dt) (hy : 1970 <= d.y /\ d.y <= 2099) (hm : 1 <= d.mo /\ d.mo <= 12) (hd : 1 <= d.d /\ d.d <= 31) (h1 : 0 <= d.h /\ d.h <= 23) (h2 : 0 <= d.mi /\ d.mi <= 59) (h3 : 0 <= d.s /\ d.s <= 59) (h4 : -720 <= d.z /\ d.z <= 840) :
 qc id_impl_Date_seconds [.agg (cD d)] = some (.int .i64 (secI d)) := by
 have e0 := daysBefore_c d.y d.mo d.d hy hm hd
 have b0 := dbI_le hy hm hd
 have e1 := n_mul (.int .i64) (dbI d.y d.mo d.d) 86400 (by omega) (by omega)
 have e2 := n_mul (.int .i64) d.h 3600 (by omega) (by omega)
 have e3 := n_add (.int .i64) (dbI d.y d.mo d.d * 86400) (d.h * 3600) (by omega) (by omega)
 have e4 := n_mul (.int .i64) d.mi 60 (by omega) (by omega)
 have e5 := n_add (.int .i64) (dbI d.y d.mo d.d * 86400 + d.h * 3600) (d.mi * 60) (by omega) (by omega)
 have e6 := n_add (.int .i64) (dbI d.y d.mo d.d * 86400 + d.h * 3600 + d.mi * 60) d.s (by omega) (by omega)
 have e7 := n_mul (.int .i64) d.z 60 (by omega) (by omega)
 have e8 := n_sub (.int .i64) (dbI d.y d.mo d.d * 86400 + d.h * 3600 + d.mi * 60 + d.s) (d.z * 60) (by omega) (by omega)
 refine qc_of (H := []) ?_ (by simp only [cD_e, evv]) rfl
 show cv _ _ _ = _
 rw [impl_Date_seconds_eq]
 simp only [cD_e, evv, e0, e1, e2, e3, e4, e5, e6, e7, e8]
 rfl
theorem impl_DateValid_c (d : Dt) : qc id_impl_DateValid [.agg (cD d)] = some (.bool (validT d)) := by
 have e0 := impl_DaysOf_c d.y d.mo
 have e1 := between_c d.d 1 (dimI d.y d.mo)
 have e2 := between_c d.h 0 23
 have e3 := between_c d.mi 0 59
 have e4 := between_c d.s 0 59
 have e5 := isZone_c d.z
 refine qc_of (H := []) ?_ (by simp only [cD_e, evv]) rfl
 show cv _ _ _ = _
 rw [impl_DateValid_eq]
 unfold validT fieldsT
 by_cases c1 : 1 <= d.d /\ d.d <= dimI d.y d.mo
 ·have p1 := dimI_pos (y := d.y) (m := d.mo) (by omega)
  have p2 := dimI_le d.y d.mo
  by_cases c2 : 0 <= d.h /\ d.h <= 23
  ·by_cases c3 : 0 <= d.mi /\ d.mi <= 59
   ·by_cases c4 : 0 <= d.s /\ d.s <= 59
    ·by_cases c5 : -720 <= d.z /\ d.z <= 840
     ·have e6 := secs_c d p1.1 p1.2 (by omega) c2 c3 c4 c5
      have e7 := between_c (secI d) 0 4102444799
      simp only [cD_e] at e6
      simp only [cD_e, evv, e0, e1, e2, e3, e4, e5, e6, e7, c1, c2, c3, c4, c5]
      by_cases c6 : 0 <= secI d /\ secI d < 4102444800
      ·simp [c6, show secI d <= 4102444799 from by omega]
      ·have : ¬ (0 <= secI d /\ secI d <= 4102444799) := by omega
       simp [c6, this]
     ·simp [cD_e, evv, e0, e1, e2, e3, e4, e5, c1, c2, c3, c4, c5]
    ·simp [cD_e, evv, e0, e1, e2, e3, e4, c1, c2, c3, c4]
     intros; omega
   ·simp [cD_e, evv, e0, e1, e2, e3, c1, c2, c3]
    intros; omega
  ·simp [cD_e, evv, e0, e1, e2, c1, c2]
   intros; omega
 ·simp [cD_e, evv, e0, e1, c1]
  intros; omega
theorem l4Zone_c (n : Int) : qc id_spec_l4Zone [.int .i64 n] = some (.bool (decide (-720 <= n /\ n <= 840))) := by
 refine qc_of (H := []) ?_ (by simp only [evv]) rfl
 show cv _ _ _ = _
 rw [spec_l4Zone_eq]
 by_cases h1 : -720 <= n <;> by_cases h2 : n <= 840 <;> simp [evv, h1, h2]
theorem l4Fields_c (d : Dt) : qc id_spec_l4Fields [.agg (cD d)] = some (.bool (fieldsT d)) := by
 have e0 := spec_DaysOf_c d.y d.mo
 have e1 := l4Zone_c d.z
 refine qc_of (H := []) ?_ (by simp only [cD_e, evv]) rfl
 show cv _ _ _ = _
 rw [spec_l4Fields_eq]
 unfold fieldsT
 by_cases c1 : 1 <= d.d <;> by_cases c2 : d.d <= dimI d.y d.mo <;> by_cases c3 : 0 <= d.h <;> by_cases c4 : d.h <= 23 <;> simp [cD_e, evv, e0, e1, c1, c2, c3, c4]
 by_cases c5 : 0 <= d.mi <;> by_cases c6 : d.mi <= 59 <;> by_cases c7 : 0 <= d.s <;> by_cases c8 : d.s <= 59 <;> simp [evv, c5, c6, c7, c8]
theorem l4Seconds_c (d : Dt) (hf : fieldsT d = true) : qc id_spec_l4Seconds [.agg (cD d)] = some (.int .i64 (secI d)) := by
 unfold fieldsT at hf
 simp only [decide_eq_true_eq] at hf
 obtain ⟨hd1, hd2, h1, h2, h3, h4, h5, h6, h7, h8⟩ := hf
 obtain ⟨hy, hm⟩ := dimI_pos (y := d.y) (m := d.mo) (by omega)
 have p2 := dimI_le d.y d.mo
 have b0 := dbI_le hy hm (d := d.d) (by omega)
 obtain ⟨k, hk⟩ : ∃ k : Nat, d.y = 1970 + k := ⟨(d.y - 1970).toNat, by omega⟩
 have hdb : dbI d.y d.mo d.d = d.d - 1 + cumY k + cumM d.y (d.mo - 1).toNat := by
  unfold dbI; rw [hk, show ((1970 + (k : Int)) - 1970).toNat = k by omega]
 have bk := cumY_le k
 have e0 := n_sub (.int .i64) d.d 1 (by omega) (by omega)
 suffices h : Gets (cv id_spec_l4Seconds [.agg (cD d)] []) fun r => r.1 = .int .i64 (secI d) by
  obtain ⟨⟨v, H⟩, e, h⟩ := h
  have h : v = _ := h
  subst h
  exact qc_of e (by simp only [cD_e, evv]) rfl
 have e1 := n_mul (.int .i64) (dbI d.y d.mo d.d) 86400 (by omega) (by omega)
 have e2 := n_mul (.int .i64) d.h 3600 (by omega) (by omega)
 have e3 := n_add (.int .i64) (dbI d.y d.mo d.d * 86400) (d.h * 3600) (by omega) (by omega)
 have e4 := n_mul (.int .i64) d.mi 60 (by omega) (by omega)
 have e5 := n_add (.int .i64) (dbI d.y d.mo d.d * 86400 + d.h * 3600) (d.mi * 60) (by omega) (by omega)
 have e6 := n_add (.int .i64) (dbI d.y d.mo d.d * 86400 + d.h * 3600 + d.mi * 60) d.s (by omega) (by omega)
 have e7 := n_mul (.int .i64) d.z 60 (by omega) (by omega)
 have e8 := n_sub (.int .i64) (dbI d.y d.mo d.d * 86400 + d.h * 3600 + d.mi * 60 + d.s) (d.z * 60) (by omega) (by omega)
 rw [spec_l4Seconds_eq]
 simp only [cD_e, evv, e0]
 refine Gets.loop2 (I := fun n st H => ∃ i : Nat, n = k - i /\ i <= k /\ st = .int .i64 (d.d - 1 + cumY i) :: .int .i64 (1970 + i) :: cD d)
  (P := fun q vs H => q = 0 /\ vs = .int .i64 (d.d - 1 + cumY k) :: cD d) (n := k) ?_ ⟨0, by omega, by omega, by simp [cumY, cD_e]⟩ ?_
 ·rintro n st H ⟨i, rfl, hi, rfl⟩
  simp only [cD_e]
  rw [spec_l4Seconds_l3_eq]
  by_cases hlt : i < k
  ·have b1 := cumY_le i
   have c1 := n_add (.int .i64) (d.d - 1 + cumY i) 365 (by omega) (by omega)
   have c2 := n_add (.int .i64) (d.d - 1 + cumY i + 365) 1 (by omega) (by omega)
   have c3 := n_add (.int .i64) (1970 + (i : Int)) 1 (by omega) (by omega)
   rw [show (1970 + (i : Int)) + 1 = 1970 + ((i + 1 : Nat) : Int) by omega] at c3
   have c4 := l4Leap_c (1970 + i)
   by_cases hl : leapI (1970 + (i : Int)) = true
   ·have : d.d - 1 + cumY i + 365 + 1 = d.d - 1 + cumY (i + 1) := by simp only [cumY, hl, if_true]; omega
    rw [this] at c2
    simp only [evv, c1, c2, c3, c4, hl, show (1970 + (i : Int)) < d.y from by omega]
    exact Gets.here (.inr ⟨rfl, k - (i + 1), by omega, i + 1, rfl, by omega, rfl⟩)
   ·have : d.d - 1 + cumY i + 365 = d.d - 1 + cumY (i + 1) := by simp only [cumY, hl]; simp; omega
    rw [this] at c1
    simp only [evv, c1, c3, c4, hl, show (1970 + (i : Int)) < d.y from by omega]
    exact Gets.here (.inr ⟨rfl, k - (i + 1), by omega, i + 1, rfl, by omega, rfl⟩)
  ·have : i = k := by omega
   subst this
   simp only [evv, show ¬ (1970 + (i : Int)) < d.y from by omega]
   exact Gets.here (.inl ⟨0, rfl, rfl, rfl⟩)
 rintro _ _ H ⟨rfl, rfl⟩
 simp only [cD_e, evv]
 refine Gets.loop2 (I := fun n st H => ∃ j : Nat, n = (d.mo - 1).toNat + 1 - j /\ 1 <= j /\ j <= (d.mo - 1).toNat + 1 /\ st = .int .i64 (d.d - 1 + cumY k + cumM d.y (j - 1)) :: .int .i64 (j : Nat) :: cD d)
  (P := fun q vs H => q = 0 /\ vs = .int .i64 (dbI d.y d.mo d.d) :: cD d) (n := (d.mo - 1).toNat) ?_ ⟨1, by omega, by omega, by omega, by simp [cumM, cD_e]⟩ ?_
 ·rintro n st H ⟨j, rfl, hj1, hj2, rfl⟩
  simp only [cD_e]
  rw [spec_l4Seconds_l9_eq]
  by_cases hlt : (j : Int) < d.mo
  ·have f1 := spec_DaysOf_c d.y j
   have b1 := dimI_le d.y j
   have b2 := cumM_le d.y (j - 1)
   have f2 := n_add (.int .i64) (d.d - 1 + cumY k + cumM d.y (j - 1)) (dimI d.y j) (by omega) (by omega)
   have f3 : vBinV (.int .i64) .add (.int .i64 (j : Int)) (.int .i64 1) = some (.int .i64 ((j + 1 : Nat) : Int)) := n_addN _ j 1 (by omega)
   have hcm : d.d - 1 + cumY k + cumM d.y (j - 1) + dimI d.y j = d.d - 1 + cumY k + cumM d.y (j + 1 - 1) := by
    obtain ⟨q, rfl⟩ : ∃ q, j = q + 1 := ⟨j - 1, by omega⟩
    simp only [Nat.add_sub_cancel, cumM]
    rw [Int.add_assoc]; rfl
   rw [hcm] at f2
   simp only [evv, f1, f2, f3, hlt]
   exact Gets.here (.inr ⟨rfl, (d.mo - 1).toNat + 1 - (j + 1), by omega, j + 1, rfl, by omega, by omega, rfl⟩)
  ·have : j - 1 = (d.mo - 1).toNat := by omega
   rw [this, <- hdb]
   simp only [evv, hlt]
   exact Gets.here (.inl ⟨0, rfl, rfl, rfl⟩)
 rintro _ _ H ⟨rfl, rfl⟩
 simp only [cD_e, evv, e1, e2, e3, e4, e5, e6, e7, e8]
 exact Gets.here rfl
theorem spec_DateValid_c (d : Dt) : qc id_spec_DateValid [.agg (cD d)] = some (.bool (validT d)) := by
 have e0 := l4Fields_c d
 refine qc_of (H := []) ?_ (by simp only [cD_e, evv]) rfl
 show cv _ _ _ = _
 rw [spec_DateValid_eq]
 unfold validT
 by_cases hf : fieldsT d = true
 ·have e1 := l4Seconds_c d hf
  simp only [cD_e] at e0 e1
  by_cases h1 : 0 <= secI d <;> by_cases h2 : secI d < 4102444800 <;> simp [cD_e, evv, e0, e1, hf, h1, h2]
 ·simp only [cD_e] at e0
  simp [cD_e, evv, e0, hf]
end Go.Proofs.YtncekccimhohgaaGreatDoor.Q
