/- Contracts: dates as texts. -/
import Derived.Test.YtncekccimhohgaaGreatDoorScriptClearCc2validZ
namespace Go.Proofs.YtncekccimhohgaaGreatDoor.Q
open Go Go.AM
set_option linter.unusedSimpArgs false
set_option linter.unusedVariables false
set_option linter.unusedSectionVars false
def wdays : List Bs := [[84, 104, 117], [70, 114, 105], [83, 97, 116], [83, 117, 110], [77, 111, 110], [84, 117, 101], [87, 101, 100]]
def monT : List Bs := [[74, 97, 110], [70, 101, 98], [77, 97, 114], [65, 112, 114], [77, 97, 121], [74, 117, 110], [74, 117, 108], [65, 117, 103], [83, 101, 112], [79, 99, 116], [78, 111, 118], [68, 101, 99]]
def wdT (d : Dt) : Bs := wdays.getD ((dbI d.y d.mo d.d).toNat % 7) []
def sgnT (z : Int) : Bs := if z < 0 then [32, 45] else [32, 43]
def fmtD (d : Dt) : Bs := wdT d ++ [44, 32] ++ decT d.d.toNat 1 ++ [32] ++ monT.getD (d.mo - 1).toNat [] ++ [32] ++ decT d.y.toNat 4 ++ [32] ++ decT d.h.toNat 2 ++ [58] ++ decT d.mi.toNat 2 ++ [58] ++ decT d.s.toNat 2 ++ sgnT d.z ++ decT (d.z.natAbs / 60) 2 ++ decT (d.z.natAbs % 60) 2
def fmtT (d : Dt) : Bs := if validT d = true then fmtD d else []
theorem decT_len (n k : Nat) : (decT n k).length <= n + k := by have := decF_len (n + k) n k []; simpa [decT] using this
theorem two_dec : ∀ n : Nat, n < 100 -> decT (n / 10) 1 ++ decT (n % 10) 1 = decT n 2 := by decide +kernel
theorem year_dec : ∀ k : Nat, k < 130 -> decT (1970 + k) 4 = decT (1970 + k) 1 := by decide +kernel
theorem wdays_len : ∀ r : Nat, (wdays.getD r []).length <= 3 := fun r => by
 by_cases h : r < 7
 ·have : ∀ r : Nat, r < 7 -> (wdays.getD r []).length <= 3 := by decide
  exact this r h
 ·simp [wdays, List.getD_eq_getElem?_getD, List.getElem?_eq_none (show ([[84, 104, 117], [70, 114, 105], [83, 97, 116], [83, 117, 110], [77, 111, 110], [84, 117, 101], [87, 101, 100]] : List Bs).length <= r by simp; omega)]
theorem monT_len : ∀ r : Nat, (monT.getD r []).length <= 3 := fun r => by
 by_cases h : r < 12
 ·have : ∀ r : Nat, r < 12 -> (monT.getD r []).length <= 3 := by decide
  exact this r h
 ·simp [monT, List.getD_eq_getElem?_getD, List.getElem?_eq_none (show ([[74, 97, 110], [70, 101, 98], [77, 97, 114], [65, 112, 114], [77, 97, 121], [74, 117, 110], [74, 117, 108], [65, 117, 103], [83, 101, 112], [79, 99, 116], [78, 111, 118], [68, 101, 99]] : List Bs).length <= r by simp; omega)]
theorem vT_idxD (o : Bool) (l : List Bs) (i : Nat) (h : i < l.length) : vIdxV 1 (.sl o (vT l)) (.int .i64 (i : Int)) = some (.elt [.str (l.getD i [])] 0) := by
 have := vT_idx o l .i64 i h
 rw [List.getD_eq_getElem?_getD, List.getElem?_eq_getElem h]
 exact this
theorem valid_of {d : Dt} (h : validT d = true) : ∃ (k j dd hh mm ss : Nat), d.y = ((1970 + k : Nat) : Int) /\ d.mo = ((j + 1 : Nat) : Int) /\ d.d = (dd : Nat) /\ d.h = (hh : Nat) /\ d.mi = (mm : Nat) /\ d.s = (ss : Nat) /\ k < 130 /\ j < 12 /\ 1 <= dd /\ (dd : Int) <= dimI d.y d.mo /\ hh <= 23 /\ mm <= 59 /\ ss <= 59 /\ -720 <= d.z /\ d.z <= 840 := by
 unfold validT fieldsT at h
 simp only [Bool.and_eq_true, decide_eq_true_eq] at h
 obtain ⟨⟨hd1, hd2, h1, h2, h3, h4, h5, h6, h7, h8⟩, _⟩ := h
 obtain ⟨hy, hm⟩ := dimI_pos (y := d.y) (m := d.mo) (by omega)
 exact ⟨(d.y - 1970).toNat, (d.mo - 1).toNat, d.d.toNat, d.h.toNat, d.mi.toNat, d.s.toNat, by omega, by omega, by omega, by omega, by omega, by omega, by omega, by omega, by omega, by omega, by omega, by omega, by omega, h7, h8⟩
theorem wd_ir : ∀ (r : Nat), r < 7 -> vIndexRV 7 1 (.agg [(.str [84, 104, 117]), (.str [70, 114, 105]), (.str [83, 97, 116]), (.str [83, 117, 110]), (.str [77, 111, 110]), (.str [84, 117, 101]), (.str [87, 101, 100])]) (.int .i64 (r : Int)) = some (.str (wdays.getD r [])) := fun r h => by
 obtain rfl | rfl | rfl | rfl | rfl | rfl | rfl : r = 0 ∨ r = 1 ∨ r = 2 ∨ r = 3 ∨ r = 4 ∨ r = 5 ∨ r = 6 := by omega
 all_goals rfl
theorem impl_WeekdayOf_c (d : Dt) (h : validT d = true) : qc id_impl_WeekdayOf [.agg (cD d)] = some (.str (wdT d)) := by
 have e0 := impl_DateValid_c d
 rw [h] at e0
 obtain ⟨k, j, dd, hh, mm, ss, q1, q2, q3, q4, q5, q6, q7, q8, q9, q10, q11, q12, q13, q14⟩ := valid_of h
 have bd := dimI_le d.y d.mo
 have e1 := daysBefore_c d.y d.mo d.d (by omega) (by omega) (by omega)
 have b0 := dbI_le (y := d.y) (m := d.mo) (d := d.d) (by omega) (by omega) (by omega)
 obtain ⟨b, hb⟩ : ∃ b : Nat, dbI d.y d.mo d.d = b := ⟨_, (Int.toNat_of_nonneg b0.1).symm⟩
 have e2 : vBinV (.int .i64) .rem (.int .i64 (b : Nat)) (.int .i64 7) = some (.int .i64 ((b % 7 : Nat) : Int)) := n_remN _ b 7 (by omega)
 have e3 := wd_ir (b % 7) (Nat.mod_lt _ (by omega))
 simp only [cD_e] at e0
 refine qc_of (H := []) ?_ (by simp only [cD_e, evv]) rfl
 show cv _ _ _ = _
 rw [impl_WeekdayOf_eq]
 unfold wdT
 rw [hb] at e1 ⊢
 simp only [cD_e, evv, e0, e1, e2, e3, Int.toNat_natCast]
theorem spec_WeekdayOf_c (d : Dt) (h : validT d = true) : qc id_spec_WeekdayOf [.agg (cD d)] = some (.str (wdT d)) := by
 have e0 := spec_DateValid_c d
 rw [h] at e0
 have hf : fieldsT d = true := by
  unfold validT at h
  rw [Bool.and_eq_true] at h
  exact h.1
 have e1 := l4Seconds_c d hf
 obtain ⟨k, j, dd, hh, mm, ss, q1, q2, q3, q4, q5, q6, q7, q8, q9, q10, q11, q12, q13, q14⟩ := valid_of h
 have bd := dimI_le d.y d.mo
 have b0 := dbI_le (y := d.y) (m := d.mo) (d := d.d) (by omega) (by omega) (by omega)
 obtain ⟨b, hb⟩ : ∃ b : Nat, dbI d.y d.mo d.d = b := ⟨_, (Int.toNat_of_nonneg b0.1).symm⟩
 have hs : secI d = b * 86400 + hh * 3600 + mm * 60 + ss - d.z * 60 := by unfold secI; rw [hb, q4, q5, q6]
 have e2 := n_mul (.int .i64) d.z 60 (by omega) (by omega)
 have e3 := n_add (.int .i64) (secI d) (d.z * 60) (by omega) (by omega)
 have hsum : secI d + d.z * 60 = ((b * 86400 + hh * 3600 + mm * 60 + ss : Nat) : Int) := by omega
 rw [hsum] at e3
 have e4 : vBinV (.int .i64) .quo (.int .i64 ((b * 86400 + hh * 3600 + mm * 60 + ss : Nat) : Int)) (.int .i64 86400) = some (.int .i64 (((b * 86400 + hh * 3600 + mm * 60 + ss) / 86400 : Nat) : Int)) := n_quoN _ _ 86400 (by omega) (by omega)
 rw [show (b * 86400 + hh * 3600 + mm * 60 + ss) / 86400 = b by omega] at e4
 have e5 : vBinV (.int .i64) .rem (.int .i64 (b : Nat)) (.int .i64 7) = some (.int .i64 ((b % 7 : Nat) : Int)) := n_remN _ b 7 (by omega)
 have e6 : vIdxV 1 (.sl false [[.str [84, 104, 117]], [.str [70, 114, 105]], [.str [83, 97, 116]], [.str [83, 117, 110]], [.str [77, 111, 110]], [.str [84, 117, 101]], [.str [87, 101, 100]]]) (.int .i64 ((b % 7 : Nat) : Int)) = _ := vT_idxD false wdays (b % 7) (by have := Nat.mod_lt b (show 0 < 7 by omega); simp [wdays]; omega)
 simp only [cD_e] at e0 e1
 refine qc_of (H := []) ?_ (by simp only [cD_e, evv]) rfl
 show cv _ _ _ = _
 rw [spec_WeekdayOf_eq]
 unfold wdT
 rw [hb]
 simp only [cD_e, evv, e0, e1, e2, e3, e4, e5, e6, Int.toNat_natCast]
theorem mon_ld : ∀ (r : Nat) (H : VH), r < 12 -> ldO globB false false 1 (.gp 0 r) H = some (.str (monT.getD r []), H) := fun r H h => by
 obtain rfl | rfl | rfl | rfl | rfl | rfl | rfl | rfl | rfl | rfl | rfl | rfl : r = 0 ∨ r = 1 ∨ r = 2 ∨ r = 3 ∨ r = 4 ∨ r = 5 ∨ r = 6 ∨ r = 7 ∨ r = 8 ∨ r = 9 ∨ r = 10 ∨ r = 11 := by omega
 all_goals rfl
theorem impl_FormatDate_c (d : Dt) : qc id_impl_FormatDate [.agg (cD d)] = some (.str (fmtT d)) := by
 have e0 := impl_DateValid_c d
 refine qc_of (H := []) ?_ (by simp only [cD_e, evv]) rfl
 show cv _ _ _ = _
 rw [impl_FormatDate_eq]
 unfold fmtT
 by_cases hv : validT d = true
 ·rw [if_pos hv]
  rw [hv] at e0
  have e1 := impl_WeekdayOf_c d hv
  obtain ⟨k, j, dd, hh, mm, ss, q1, q2, q3, q4, q5, q6, q7, q8, q9, q10, q11, q12, q13, q14⟩ := valid_of hv
  have bd := dimI_le d.y d.mo
  have e2 : qc id_impl_decimal [.int .i64 (dd : Nat), .int .i64 1] = _ := decimal_c dd 1 (by omega) (by omega)
  have e3 : vBinV (.int .i64) .sub (.int .i64 ((j + 1 : Nat) : Int)) (.int .i64 1) = some (.int .i64 (j : Nat)) := n_subN _ (j + 1) 1 (by omega) (by omega)
  have e4 : vIdxAV 12 1 (.gp 0 0) (.int .i64 (j : Nat)) = some (.gp 0 (0 + j * 1)) := by
   simp only [vIdxAV]
   rw [if_pos ⟨by omega, by omega⟩]; rfl
  rw [show 0 + j * 1 = j by omega] at e4
  have e5 := fun H => mon_ld j H q8
  have e6 : qc id_impl_decimal [.int .i64 ((1970 + k : Nat) : Int), .int .i64 4] = _ := decimal_c (1970 + k) 4 (by omega) (by omega)
  have e7 : qc id_impl_decimal [.int .i64 (hh : Nat), .int .i64 2] = _ := decimal_c hh 2 (by omega) (by omega)
  have e8 : qc id_impl_decimal [.int .i64 (mm : Nat), .int .i64 2] = _ := decimal_c mm 2 (by omega) (by omega)
  have e9 : qc id_impl_decimal [.int .i64 (ss : Nat), .int .i64 2] = _ := decimal_c ss 2 (by omega) (by omega)
  have hz : d.z.natAbs <= 840 := by omega
  have e10 : vBinV (.int .i64) .quo (.int .i64 (d.z.natAbs : Nat)) (.int .i64 60) = some (.int .i64 ((d.z.natAbs / 60 : Nat) : Int)) := n_quoN _ d.z.natAbs 60 (by omega) (by omega)
  have e11 : vBinV (.int .i64) .rem (.int .i64 (d.z.natAbs : Nat)) (.int .i64 60) = some (.int .i64 ((d.z.natAbs % 60 : Nat) : Int)) := n_remN _ d.z.natAbs 60 (by omega)
  have e12 : qc id_impl_decimal [.int .i64 ((d.z.natAbs / 60 : Nat) : Int), .int .i64 2] = _ := decimal_c (d.z.natAbs / 60) 2 (by omega) (by omega)
  have e13 : qc id_impl_decimal [.int .i64 ((d.z.natAbs % 60 : Nat) : Int), .int .i64 2] = _ := decimal_c (d.z.natAbs % 60) 2 (by omega) (by omega)
  have w0 : (wdT d).length <= 3 := wdays_len _
  have w1 := monT_len j
  have w2 := decT_len dd 1
  have w3 := decT_len (1970 + k) 4
  have w4 := decT_len hh 2
  have w5 := decT_len mm 2
  have w6 := decT_len ss 2
  have w7 := decT_len (d.z.natAbs / 60) 2
  have w8 := decT_len (d.z.natAbs % 60) 2
  have hres : fmtD d = wdT d ++ [44, 32] ++ decT dd 1 ++ [32] ++ monT.getD j [] ++ [32] ++ decT (1970 + k) 4 ++ [32] ++ decT hh 2 ++ [58] ++ decT mm 2 ++ [58] ++ decT ss 2 ++ sgnT d.z ++ decT (d.z.natAbs / 60) 2 ++ decT (d.z.natAbs % 60) 2 := by
   unfold fmtD
   rw [q1, q2, q3, q4, q5, q6]
   rw [show (((j + 1 : Nat) : Int) - 1).toNat = j by omega]
   simp only [Int.toNat_natCast]
  rw [hres]
  simp only [cD_e, q1, q2, q3, q4, q5, q6] at e0 e1
  have add : ∀ (a b : Bs), a.length <= 100000 -> b.length <= 10000 -> vBinV .str .add (.str a) (.str b) = some (.str (a ++ b)) := fun a b h1 h2 => t_add .str a b (by omega)
  have hzn : d.z < 0 -> vUnV .neg (.int .i64 d.z) = some (.int .i64 (d.z.natAbs : Nat)) := fun hz => by
   rw [n_neg _ (by omega) (by omega)]
   congr 2; omega
  have hzp : ¬ d.z < 0 -> d.z = (d.z.natAbs : Nat) := fun hz => by omega
  generalize wdT d = p0 at *
  generalize monT.getD j [] = p1 at *
  generalize decT dd 1 = p2 at *
  generalize decT (1970 + k) 4 = p3 at *
  generalize decT hh 2 = p4 at *
  generalize decT mm 2 = p5 at *
  generalize decT ss 2 = p6 at *
  generalize decT (d.z.natAbs / 60) 2 = p7 at *
  generalize decT (d.z.natAbs % 60) 2 = p8 at *
  have a1 := add p0 [44, 32] (by omega) (by simp)
  have a2 := add (p0 ++ [44, 32]) p2 (by simp; omega) (by omega)
  have a3 := add (p0 ++ [44, 32] ++ p2) [32] (by simp; omega) (by simp)
  have a4 := add (p0 ++ [44, 32] ++ p2 ++ [32]) p1 (by simp; omega) (by omega)
  have a5 := add (p0 ++ [44, 32] ++ p2 ++ [32] ++ p1) [32] (by simp; omega) (by simp)
  have a6 := add (p0 ++ [44, 32] ++ p2 ++ [32] ++ p1 ++ [32]) p3 (by simp; omega) (by omega)
  have a7 := add (p0 ++ [44, 32] ++ p2 ++ [32] ++ p1 ++ [32] ++ p3) [32] (by simp; omega) (by simp)
  have a8 := add (p0 ++ [44, 32] ++ p2 ++ [32] ++ p1 ++ [32] ++ p3 ++ [32]) p4 (by simp; omega) (by omega)
  have a9 := add (p0 ++ [44, 32] ++ p2 ++ [32] ++ p1 ++ [32] ++ p3 ++ [32] ++ p4) [58] (by simp; omega) (by simp)
  have a10 := add (p0 ++ [44, 32] ++ p2 ++ [32] ++ p1 ++ [32] ++ p3 ++ [32] ++ p4 ++ [58]) p5 (by simp; omega) (by omega)
  have a11 := add (p0 ++ [44, 32] ++ p2 ++ [32] ++ p1 ++ [32] ++ p3 ++ [32] ++ p4 ++ [58] ++ p5) [58] (by simp; omega) (by simp)
  have a12 := add (p0 ++ [44, 32] ++ p2 ++ [32] ++ p1 ++ [32] ++ p3 ++ [32] ++ p4 ++ [58] ++ p5 ++ [58]) p6 (by simp; omega) (by omega)
  have a13 := fun (s : Bs) (hs : s.length = 2) => add (p0 ++ [44, 32] ++ p2 ++ [32] ++ p1 ++ [32] ++ p3 ++ [32] ++ p4 ++ [58] ++ p5 ++ [58] ++ p6) s (by simp; omega) (by omega)
  have a14 := fun (s : Bs) (hs : s.length = 2) => add (p0 ++ [44, 32] ++ p2 ++ [32] ++ p1 ++ [32] ++ p3 ++ [32] ++ p4 ++ [58] ++ p5 ++ [58] ++ p6 ++ s) p7 (by simp; omega) (by omega)
  have a15 := fun (s : Bs) (hs : s.length = 2) => add (p0 ++ [44, 32] ++ p2 ++ [32] ++ p1 ++ [32] ++ p3 ++ [32] ++ p4 ++ [58] ++ p5 ++ [58] ++ p6 ++ s ++ p7) p8 (by simp; omega) (by omega)
  unfold sgnT
  by_cases hz : d.z < 0
  ·have b1 := a13 [32, 45] rfl
   have b2 := a14 [32, 45] rfl
   have b3 := a15 [32, 45] rfl
   simp only [cD_e, evv, q1, q2, q3, q4, q5, q6, e0, e1, e2, e3, e4, e5, e6, e7, e8, e9, e10, e11, e12, e13, hz, hzn hz, a1, a2, a3, a4, a5, a6, a7, a8, a9, a10, a11, a12, b1, b2, b3]
  ·have b1 := a13 [32, 43] rfl
   have b2 := a14 [32, 43] rfl
   have b3 := a15 [32, 43] rfl
   have hzz := hzp hz
   generalize d.z.natAbs = zn at *
   rw [hzz] at e0 e1
   simp only [cD_e, evv, q1, q2, q3, q4, q5, q6, hzz, e0, e1, e2, e3, e4, e5, e6, e7, e8, e9, e10, e11, e12, e13, show ¬ ((zn : Nat) : Int) < 0 from by omega, a1, a2, a3, a4, a5, a6, a7, a8, a9, a10, a11, a12, b1, b2, b3]
 ·simp only [cD_e] at e0
  simp only [cD_e, evv, e0, hv]
theorem l4Two_c (n : Nat) (hn : n < 100) : qc id_spec_l4Two [.int .i64 (n : Nat)] = some (.str (decT n 2)) := by
 have e1 : vBinV (.int .i64) .quo (.int .i64 (n : Nat)) (.int .i64 10) = some (.int .i64 ((n / 10 : Nat) : Int)) := n_quoN _ n 10 (by omega) (by omega)
 have e2 : vBinV (.int .i64) .rem (.int .i64 (n : Nat)) (.int .i64 10) = some (.int .i64 ((n % 10 : Nat) : Int)) := n_remN _ n 10 (by omega)
 have e3 := l13Dec_c (n / 10) (by omega)
 have e4 := l13Dec_c (n % 10) (by omega)
 have w1 := decT_len (n / 10) 1
 have w2 := decT_len (n % 10) 1
 have e5 := t_add .str (decT (n / 10) 1) (decT (n % 10) 1) (by omega)
 rw [two_dec n hn] at e5
 refine qc_of (H := []) ?_ (by simp only [evv]) rfl
 show cv _ _ _ = _
 rw [spec_l4Two_eq]
 simp only [evv, e1, e2, e3, e4, e5]
theorem l4Months_c : pc id_spec_l4Months [] = some (.sl true (vT monT)) := by
 refine pc_of (H := []) ?_ (by simp only [evv]) (by simp only [evv])
 show cv _ _ _ = _
 rw [spec_l4Months_eq]
 rfl
theorem spec_FormatDate_c (d : Dt) : qc id_spec_FormatDate [.agg (cD d)] = some (.str (fmtT d)) := by
 have e0 := spec_DateValid_c d
 refine qc_of (H := []) ?_ (by simp only [cD_e, evv]) rfl
 show cv _ _ _ = _
 rw [spec_FormatDate_eq]
 unfold fmtT
 by_cases hv : validT d = true
 ·rw [if_pos hv]
  rw [hv] at e0
  have e1 := spec_WeekdayOf_c d hv
  obtain ⟨k, j, dd, hh, mm, ss, q1, q2, q3, q4, q5, q6, q7, q8, q9, q10, q11, q12, q13, q14⟩ := valid_of hv
  have bd := dimI_le d.y d.mo
  have e2 := l13Dec_c dd (by omega)
  have e3 : vBinV (.int .i64) .sub (.int .i64 ((j + 1 : Nat) : Int)) (.int .i64 1) = some (.int .i64 (j : Nat)) := n_subN _ (j + 1) 1 (by omega) (by omega)
  have e4 := vT_idxD true monT j (by simp [monT]; omega)
  have e5 := l4Months_c
  have e6 := l13Dec_c (1970 + k) (by omega)
  rw [<- year_dec k q7] at e6
  have e7 := l4Two_c hh (by omega)
  have e8 := l4Two_c mm (by omega)
  have e9 := l4Two_c ss (by omega)
  have hz : d.z.natAbs <= 840 := by omega
  have e10 : vBinV (.int .i64) .quo (.int .i64 (d.z.natAbs : Nat)) (.int .i64 60) = some (.int .i64 ((d.z.natAbs / 60 : Nat) : Int)) := n_quoN _ d.z.natAbs 60 (by omega) (by omega)
  have e11 : vBinV (.int .i64) .rem (.int .i64 (d.z.natAbs : Nat)) (.int .i64 60) = some (.int .i64 ((d.z.natAbs % 60 : Nat) : Int)) := n_remN _ d.z.natAbs 60 (by omega)
  have e12 := l4Two_c (d.z.natAbs / 60) (by omega)
  have e13 := l4Two_c (d.z.natAbs % 60) (by omega)
  have w0 : (wdT d).length <= 3 := wdays_len _
  have w1 := monT_len j
  have w2 := decT_len dd 1
  have w3 := decT_len (1970 + k) 4
  have w4 := decT_len hh 2
  have w5 := decT_len mm 2
  have w6 := decT_len ss 2
  have w7 := decT_len (d.z.natAbs / 60) 2
  have w8 := decT_len (d.z.natAbs % 60) 2
  have hres : fmtD d = wdT d ++ [44, 32] ++ decT dd 1 ++ [32] ++ monT.getD j [] ++ [32] ++ decT (1970 + k) 4 ++ [32] ++ decT hh 2 ++ [58] ++ decT mm 2 ++ [58] ++ decT ss 2 ++ sgnT d.z ++ decT (d.z.natAbs / 60) 2 ++ decT (d.z.natAbs % 60) 2 := by
   unfold fmtD
   rw [q1, q2, q3, q4, q5, q6]
   rw [show (((j + 1 : Nat) : Int) - 1).toNat = j by omega]
   simp only [Int.toNat_natCast]
  rw [hres]
  simp only [cD_e, q1, q2, q3, q4, q5, q6] at e0 e1
  have add : ∀ (a b : Bs), a.length <= 100000 -> b.length <= 10000 -> vBinV .str .add (.str a) (.str b) = some (.str (a ++ b)) := fun a b h1 h2 => t_add .str a b (by omega)
  have hzn : d.z < 0 -> vUnV .neg (.int .i64 d.z) = some (.int .i64 (d.z.natAbs : Nat)) := fun hz => by
   rw [n_neg _ (by omega) (by omega)]
   congr 2; omega
  have hzp : ¬ d.z < 0 -> d.z = (d.z.natAbs : Nat) := fun hz => by omega
  generalize wdT d = p0 at *
  generalize monT.getD j [] = p1 at *
  generalize decT dd 1 = p2 at *
  generalize decT (1970 + k) 4 = p3 at *
  generalize decT hh 2 = p4 at *
  generalize decT mm 2 = p5 at *
  generalize decT ss 2 = p6 at *
  generalize decT (d.z.natAbs / 60) 2 = p7 at *
  generalize decT (d.z.natAbs % 60) 2 = p8 at *
  have a1 := add p0 [44, 32] (by omega) (by simp)
  have a2 := add (p0 ++ [44, 32]) p2 (by simp; omega) (by omega)
  have a3 := add (p0 ++ [44, 32] ++ p2) [32] (by simp; omega) (by simp)
  have a4 := add (p0 ++ [44, 32] ++ p2 ++ [32]) p1 (by simp; omega) (by omega)
  have a5 := add (p0 ++ [44, 32] ++ p2 ++ [32] ++ p1) [32] (by simp; omega) (by simp)
  have a6 := add (p0 ++ [44, 32] ++ p2 ++ [32] ++ p1 ++ [32]) p3 (by simp; omega) (by omega)
  have a7 := add (p0 ++ [44, 32] ++ p2 ++ [32] ++ p1 ++ [32] ++ p3) [32] (by simp; omega) (by simp)
  have a8 := add (p0 ++ [44, 32] ++ p2 ++ [32] ++ p1 ++ [32] ++ p3 ++ [32]) p4 (by simp; omega) (by omega)
  have a9 := add (p0 ++ [44, 32] ++ p2 ++ [32] ++ p1 ++ [32] ++ p3 ++ [32] ++ p4) [58] (by simp; omega) (by simp)
  have a10 := add (p0 ++ [44, 32] ++ p2 ++ [32] ++ p1 ++ [32] ++ p3 ++ [32] ++ p4 ++ [58]) p5 (by simp; omega) (by omega)
  have a11 := add (p0 ++ [44, 32] ++ p2 ++ [32] ++ p1 ++ [32] ++ p3 ++ [32] ++ p4 ++ [58] ++ p5) [58] (by simp; omega) (by simp)
  have a12 := add (p0 ++ [44, 32] ++ p2 ++ [32] ++ p1 ++ [32] ++ p3 ++ [32] ++ p4 ++ [58] ++ p5 ++ [58]) p6 (by simp; omega) (by omega)
  have a16 := add (p0 ++ [44, 32] ++ p2 ++ [32] ++ p1 ++ [32] ++ p3 ++ [32] ++ p4 ++ [58] ++ p5 ++ [58] ++ p6) [32] (by simp; omega) (by simp)
  have a13 := fun (c : UInt8) => add (p0 ++ [44, 32] ++ p2 ++ [32] ++ p1 ++ [32] ++ p3 ++ [32] ++ p4 ++ [58] ++ p5 ++ [58] ++ p6 ++ [32]) [c] (by simp; omega) (by simp)
  have a14 := fun (s : Bs) (hs : s.length = 2) => add (p0 ++ [44, 32] ++ p2 ++ [32] ++ p1 ++ [32] ++ p3 ++ [32] ++ p4 ++ [58] ++ p5 ++ [58] ++ p6 ++ s) p7 (by simp; omega) (by omega)
  have a15 := fun (s : Bs) (hs : s.length = 2) => add (p0 ++ [44, 32] ++ p2 ++ [32] ++ p1 ++ [32] ++ p3 ++ [32] ++ p4 ++ [58] ++ p5 ++ [58] ++ p6 ++ s ++ p7) p8 (by simp; omega) (by omega)
  have cc : ∀ (q : Bs) (c : UInt8), q ++ [32] ++ [c] = q ++ [32, c] := fun q c => by simp
  unfold sgnT
  by_cases hz : d.z < 0
  ·have b1 := a13 45
   rw [cc] at b1
   have b2 := a14 [32, 45] rfl
   have b3 := a15 [32, 45] rfl
   simp only [cD_e, evv, q1, q2, q3, q4, q5, q6, e0, e1, e2, e3, e4, e5, e6, e7, e8, e9, e10, e11, e12, e13, hz, hzn hz, a1, a2, a3, a4, a5, a6, a7, a8, a9, a10, a11, a12, a16, b1, b2, b3]
  ·have b1 := a13 43
   rw [cc] at b1
   have b2 := a14 [32, 43] rfl
   have b3 := a15 [32, 43] rfl
   have hzz := hzp hz
   generalize d.z.natAbs = zn at *
   rw [hzz] at e0 e1
   simp only [cD_e, evv, q1, q2, q3, q4, q5, q6, hzz, e0, e1, e2, e3, e4, e5, e6, e7, e8, e9, e10, e11, e12, e13, show ¬ ((zn : Nat) : Int) < 0 from by omega, a1, a2, a3, a4, a5, a6, a7, a8, a9, a10, a11, a12, a16, b1, b2, b3]
 ·simp only [cD_e] at e0
  simp only [cD_e, evv, e0, hv]
end Go.Proofs.YtncekccimhohgaaGreatDoor.Q
