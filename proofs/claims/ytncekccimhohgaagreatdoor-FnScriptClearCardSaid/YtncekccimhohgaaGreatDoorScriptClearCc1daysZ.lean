/- Contracts: days of months, seconds of dates, valid dates. -/
import Derived.Test.YtncekccimhohgaaGreatDoorScriptClearCc0datesZ
namespace Go.Proofs.YtncekccimhohgaaGreatDoor.Q
open Go Go.AM
set_option linter.unusedSimpArgs false
set_option linter.unusedVariables false
set_option linter.unusedSectionVars false
structure Dt where
 y : Int
 mo : Int
 d : Int
 h : Int
 mi : Int
 s : Int
 z : Int
def cD (d : Dt) : List V := [.int .i64 d.y, .int .i64 d.mo, .int .i64 d.d, .int .i64 d.h, .int .i64 d.mi, .int .i64 d.s, .int .i64 d.z]
theorem cD_e (d : Dt) : cD d = [.int .i64 d.y, .int .i64 d.mo, .int .i64 d.d, .int .i64 d.h, .int .i64 d.mi, .int .i64 d.s, .int .i64 d.z] := by exact id rfl
def leapI (y : Int) : Bool := decide (y.tmod 4 = 0) && (decide (y.tmod 100 ≠ 0) || decide (y.tmod 400 = 0))
def dimI (y m : Int) : Int := if 1970 <= y /\ y <= 2099 then (if m = 2 then (if leapI y = true then 29 else 28) else if m = 4 ∨ m = 6 ∨ m = 9 ∨ m = 11 then 30 else if 1 <= m /\ m <= 12 then 31 else 0) else 0
theorem dimI_le (y m : Int) : 0 <= dimI y m /\ dimI y m <= 31 := by
 unfold dimI
 repeat' split
 all_goals omega
theorem dimI_pos {y m : Int} (h : 0 < dimI y m) : (1970 <= y /\ y <= 2099) /\ 1 <= m /\ m <= 12 := by
 unfold dimI at h
 split at h
 ·refine ⟨‹_›, ?_⟩
  repeat' split at h
  all_goals omega
 ·omega
theorem m12 (m : Int) : m = 1 ∨ m = 2 ∨ m = 3 ∨ m = 4 ∨ m = 5 ∨ m = 6 ∨ m = 7 ∨ m = 8 ∨ m = 9 ∨ m = 10 ∨ m = 11 ∨ m = 12 ∨ (m < 1 ∨ 12 < m) := by omega
def cumY : Nat -> Int
 | 0 => 0
 | k + 1 => cumY k + (if leapI (1970 + k) = true then 366 else 365)
def cumM (y : Int) : Nat -> Int
 | 0 => 0
 | j + 1 => cumM y j + dimI y (j + 1)
theorem cumY_le : ∀ k, 0 <= cumY k /\ cumY k <= 366 * k
 | 0 => by simp [cumY]
 | k + 1 => by
   have := cumY_le k
   unfold cumY
   split <;> omega
theorem cumM_le (y : Int) : ∀ j, 0 <= cumM y j /\ cumM y j <= 31 * j
 | 0 => by simp [cumM]
 | j + 1 => by
   have := cumM_le y j
   have := dimI_le y (j + 1)
   unfold cumM
   omega
theorem cumM_12 {y : Int} (h : 1970 <= y /\ y <= 2099) : cumM y 12 = if leapI y = true then 366 else 365 := by
 simp only [cumM, dimI, h, and_self, if_true]
 by_cases hl : leapI y = true <;> simp [hl]
def dbI (y m d : Int) : Int := d - 1 + cumY (y - 1970).toNat + cumM y (m - 1).toNat
def secI (d : Dt) : Int := dbI d.y d.mo d.d * 86400 + d.h * 3600 + d.mi * 60 + d.s - d.z * 60
def fieldsT (d : Dt) : Bool := decide (1 <= d.d /\ d.d <= dimI d.y d.mo /\ 0 <= d.h /\ d.h <= 23 /\ 0 <= d.mi /\ d.mi <= 59 /\ 0 <= d.s /\ d.s <= 59 /\ -720 <= d.z /\ d.z <= 840)
def validT (d : Dt) : Bool := fieldsT d && decide (0 <= secI d /\ secI d < 4102444800)
theorem dbI_le {y m d : Int} (h : 1970 <= y /\ y <= 2099) (hm : 1 <= m /\ m <= 12) (hd : 1 <= d /\ d <= 31) : 0 <= dbI y m d /\ dbI y m d <= 48000 := by
 have h1 := cumY_le (y - 1970).toNat
 have h2 := cumM_le y (m - 1).toNat
 unfold dbI
 omega
theorem l4Leap_c (y : Int) : qc id_spec_l4Leap [.int .i64 y] = some (.bool (leapI y)) := by
 refine qc_of (H := []) ?_ (by simp only [evv]) rfl
 show cv _ _ _ = _
 have e1 := n_rem (.int .i64) y 4 .i64 (by omega)
 have e2 := n_rem (.int .i64) y 100 .i64 (by omega)
 have e3 := n_rem (.int .i64) y 400 .i64 (by omega)
 rw [spec_l4Leap_eq]
 unfold leapI
 by_cases h1 : y.tmod 4 = 0 <;> by_cases h2 : y.tmod 100 = 0 <;> by_cases h3 : y.tmod 400 = 0 <;> simp [evv, e1, e2, e3, h1, h2, h3]
theorem tmod_400 {y : Int} (h : y.tmod 400 = 0) : y.tmod 4 = 0 := by
 have h1 := Int.dvd_of_tmod_eq_zero h
 exact Int.tmod_eq_zero_of_dvd (Int.dvd_trans (by decide) h1)
theorem impl_DaysOf_c (y m : Int) : qc id_impl_DaysOf [.int .i64 y, .int .i64 m] = some (.int .i64 (dimI y m)) := by
 refine qc_of (H := []) ?_ (by simp only [evv]) rfl
 show cv _ _ _ = _
 have e1 := n_rem (.int .i64) y 4 .i64 (by omega)
 have e2 := n_rem (.int .i64) y 100 .i64 (by omega)
 have e3 := n_rem (.int .i64) y 400 .i64 (by omega)
 rw [impl_DaysOf_eq]
 unfold dimI
 by_cases h1 : y < 1970
 ·simp [evv, h1, show ¬ (1970 <= y) from by omega]
 ·by_cases h2 : y > 2099
  ·simp [evv, h1, h2, show ¬ (y <= 2099) from by omega]
  ·rcases m12 m with rfl | rfl | rfl | rfl | rfl | rfl | rfl | rfl | rfl | rfl | rfl | rfl | hm
   ·simp [evv, h1, h2, show 1970 <= y from by omega, show y <= 2099 from by omega]
   ·by_cases h4 : y.tmod 4 = 0 <;> by_cases h5 : y.tmod 100 = 0 <;> by_cases h6 : y.tmod 400 = 0 <;> first | (exact absurd (tmod_400 h6) h4) | simp [evv, h1, h2, show 1970 <= y from by omega, show y <= 2099 from by omega, e1, e2, e3, leapI, h4, h5, h6]
   all_goals (try (simp [evv, h1, h2, show 1970 <= y from by omega, show y <= 2099 from by omega]; done))
   have q : ∀ k : Int, 1 <= k -> k <= 12 -> ¬ m = k := fun k h1 h2 => by omega
   simp [evv, h1, h2, show 1970 <= y from by omega, show y <= 2099 from by omega, q, show ¬ (1 <= m /\ m <= 12) from by omega]
theorem spec_DaysOf_c (y m : Int) : qc id_spec_DaysOf [.int .i64 y, .int .i64 m] = some (.int .i64 (dimI y m)) := by
 have e1 := l4Leap_c y
 refine qc_of (H := []) ?_ (by simp only [evv]) rfl
 show cv _ _ _ = _
 rw [spec_DaysOf_eq]
 unfold dimI
 by_cases h1 : y < 1970
 ·simp [evv, h1, show ¬ (1970 <= y) from by omega]
 ·by_cases h2 : y > 2099
  ·simp [evv, h1, h2, show ¬ (y <= 2099) from by omega]
  ·have s : ∀ (a b : Int), vBinV (.int .i64) .sub (.int .i64 a) (.int .i64 b) = some (.int .i64 (IntKind.i64.wrap (a - b))) := fun a b => by simp [vBinV, toA, vBin, vIntOp, ofA]
   rcases m12 m with rfl | rfl | rfl | rfl | rfl | rfl | rfl | rfl | rfl | rfl | rfl | rfl | hm
   ·simp [evv, h1, h2, show 1970 <= y from by omega, show y <= 2099 from by omega]; rfl
   ·by_cases h4 : leapI y = true
    ·simp [evv, h1, h2, show 1970 <= y from by omega, show y <= 2099 from by omega, e1, h4]
    ·simp [evv, h1, h2, show 1970 <= y from by omega, show y <= 2099 from by omega, e1, h4]; rfl
   all_goals (try (simp [evv, h1, h2, show 1970 <= y from by omega, show y <= 2099 from by omega]; rfl))
   rcases hm with hm | hm
   ·simp [evv, h1, h2, hm, show ¬ (m = 2) from by omega, show ¬ (m = 4) from by omega, show ¬ (m = 6) from by omega, show ¬ (m = 9) from by omega, show ¬ (m = 11) from by omega, show ¬ (1 <= m) from by omega]
   ·simp [evv, h1, h2, hm, show ¬ (m < 1) from by omega, show ¬ (m = 2) from by omega, show ¬ (m = 4) from by omega, show ¬ (m = 6) from by omega, show ¬ (m = 9) from by omega, show ¬ (m = 11) from by omega, show ¬ (m <= 12) from by omega]
end Go.Proofs.YtncekccimhohgaaGreatDoor.Q
