/- Contracts: a path's place among mailboxes in order. -/
import Derived.Test.YtpmpggihngmnoaaGreatDoorScriptReturnC92deliverZ
namespace Go.Proofs.YtpmpggihngmnoaaGreatDoor.Q
open Go Go.AM
set_option linter.unusedSimpArgs false
set_option linter.unusedVariables false
set_option linter.unusedSectionVars false
theorem t_lss (tk : TK) (s t : Bs) : vBinV tk .lss (.str s) (.str t) = some (.bool (ltT s t)) := by
 simp only [vBinV, toA, vBin, vStrOp, ofA, Option.bind_some, ByteArray.toList_eq]
 rfl
theorem t_gtr (tk : TK) (s t : Bs) : vBinV tk .gtr (.str s) (.str t) = some (.bool (!(ltT s t || decide (s = t)))) := by
 simp only [vBinV, toA, vBin, vStrOp, ofA, Option.bind_some, ByteArray.toList_eq]
 have : (s == t) = decide (s = t) := by rw [Bool.eq_iff_iff, beq_iff_eq, decide_eq_true_iff]
 show some (V.bool (!(Op.bytesLess s t || s == t))) = _
 rw [this]; rfl
def cmpN (s t : Bs) : Int := if ltT s t = true then -1 else if s = t then 0 else 1
def SortX (l : List Box) : Prop := ∀ i j, i < j -> j < l.length -> ltT (boxAt l i).path (boxAt l j).path = true
theorem sort_of {l : List Box} (h : boxesT l = true) : SortX l := by
 unfold boxesT at h
 rw [Bool.and_eq_true, Bool.not_eq_true'] at h
 have step : ∀ j, 0 < j -> j < l.length -> ltT (boxAt l (j - 1)).path (boxAt l j).path = true := fun j h0 hj => by
  have := List.any_eq_false.1 h.2 j (by simpa using hj)
  unfold badX at this
  simp only [Bool.or_eq_true, not_or, Bool.and_eq_true, decide_eq_true_eq, Bool.not_eq_true'] at this
  have := this.2.2.1
  cases hq : ltT (boxAt l (j - 1)).path (boxAt l j).path with
  | true => rfl
  | false => exact absurd ⟨h0, hq⟩ this
 intro i j hij hj
 induction j with
 | zero => omega
 | succ j ih =>
   have s := step (j + 1) (by omega) hj
   rw [Nat.add_sub_cancel] at s
   by_cases e : i = j
   ·subst e; exact s
   ·exact bl_trans (ih (by omega) (by omega)) s
theorem sh_half (n : Nat) (h : n <= 4611686018427387904) : vBinV (.int .u64) .shr (.int .u64 (n : Int)) (.int .u64 1) = some (.int .u64 ((n / 2 : Nat) : Int)) := by
 have : Int.fdiv (n : Int) 2 = ((n / 2 : Nat) : Int) := by
  rw [Int.fdiv_eq_ediv_of_nonneg _ (by omega)]; omega
 simp only [vBinV, toA, vBin, Option.bind_some]
 rw [if_pos (by omega)]
 show some (V.int .u64 (Int.fdiv (n : Int) (2 ^ 1))) = _
 rw [show ((2 : Int) ^ 1) = 2 from rfl, this]
theorem cv_u (n : Nat) (h : n <= 4611686018427387904) : vConvV .u64 (.int .i64 (n : Int)) = some (.int .u64 (n : Int)) := by
 simp [vConvV, IntWalk.u64_in (n : Int) ⟨by omega, by omega⟩]
theorem cv_i (n : Nat) (h : n <= 4611686018427387904) : vConvV .i64 (.int .u64 (n : Int)) = some (.int .i64 (n : Int)) := by
 simp [vConvV, IntWalk.i64_in (n : Int) ⟨by omega, by omega⟩]
theorem isNaN_c (s : Bs) : qc id_cmp_isNaN_string_ [.str s] = some (.bool false) := by
 refine qc_of (H := []) ?_ (by simp only [evv]) rfl
 show cv _ _ _ = _
 rw [cmp_isNaN_string__eq]
 simp only [evv, ne_eq, not_true_eq_false]
theorem Compare_c (s t : Bs) : qc id_cmp_Compare_string_ [.str s, .str t] = some (.int .i64 (cmpN s t)) := by
 have e1 := isNaN_c s
 have e2 := isNaN_c t
 refine qc_of (H := []) ?_ (by simp only [evv]) rfl
 show cv _ _ _ = _
 rw [cmp_Compare_string__eq]
 unfold cmpN
 by_cases h1 : ltT s t = true
 ·simp only [evv, e1, e2, t_lss, t_gtr, h1]
 ·have h1' : ltT s t = false := by simpa using h1
  by_cases h2 : s = t
  ·simp only [evv, e1, e2, t_lss, t_gtr, h1', h2, Bool.or_true]
   subst h2
   simp only [h1', evv, Bool.or_true]
  ·simp only [evv, e1, e2, t_lss, t_gtr, h1', h2, Bool.or_self]
theorem boxPlace_1_c (b : Box) (p : Bs) : qc id_impl_boxPlace_1 [.agg (eX.e b), .str p] = some (.int .i64 (cmpN b.path p)) := by
 have e1 := Compare_c b.path p
 rw [eX_e]
 refine qc_of (H := []) ?_ (by simp only [evv]) rfl
 show cv _ _ _ = _
 rw [impl_boxPlace_1_eq]
 simp only [evv, e1]
theorem BinSearch_g (l : List Box) (p : Bs) (hl : l.length <= 1000000000) : ∃ i : Nat, i <= l.length /\ qc id_slices_BinarySearchFunc___impl_Box_impl_Box_string_ [.sl false (vR eX l), .str p, .fn id_impl_boxPlace_1 []] = some (.tup [.int .i64 (i : Nat), .bool (decide (i < l.length) && decide ((boxAt l i).path = p))]) ∧
 (SortX l -> (∀ j, j < i -> ltT (boxAt l j).path p = true) /\ (i < l.length -> ltT (boxAt l i).path p = false)) := by
 suffices hg : Gets (cv id_slices_BinarySearchFunc___impl_Box_impl_Box_string_ [.sl false (vR eX l), .str p, .fn id_impl_boxPlace_1 []] []) fun r => ∃ i : Nat, i <= l.length /\ r.1 = .tup [.int .i64 (i : Nat), .bool (decide (i < l.length) && decide ((boxAt l i).path = p))] ∧
  (SortX l -> (∀ j, j < i -> ltT (boxAt l j).path p = true) /\ (i < l.length -> ltT (boxAt l i).path p = false)) by
  obtain ⟨⟨v, H⟩, e, i, hi, h, h3⟩ := hg
  have h : v = _ := h
  subst h
  exact ⟨i, hi, qc_of e (by simp only [evv]) rfl, h3⟩
 rw [slices_BinarySearchFunc___impl_Box_impl_Box_string__eq]
 simp only [evv]
 refine Gets.loop2 (I := fun n st H => ∃ lo hi : Nat, n = hi - lo /\ lo <= hi /\ hi <= l.length /\ st = [.sl false (vR eX l), .str p, .fn id_impl_boxPlace_1 [], .int .i64 (l.length : Nat), .int .i64 (lo : Nat), .int .i64 (hi : Nat)] ∧
  (SortX l -> (∀ j, j < lo -> ltT (boxAt l j).path p = true) /\ (∀ j, hi <= j -> j < l.length -> ltT (boxAt l j).path p = false)))
  (P := fun q vs H => q = 0 /\ ∃ lo : Nat, lo <= l.length /\ vs = [.sl false (vR eX l), .str p, .fn id_impl_boxPlace_1 [], .int .i64 (l.length : Nat), .int .i64 (lo : Nat)] ∧
   (SortX l -> (∀ j, j < lo -> ltT (boxAt l j).path p = true) /\ (∀ j, lo <= j -> j < l.length -> ltT (boxAt l j).path p = false))) (n := l.length) ?_ ⟨0, l.length, by omega, by omega, by omega, rfl, fun _ => ⟨fun j hj => by omega, fun j h1 h2 => by omega⟩⟩ ?_
 ·rintro n st H ⟨lo, hi, rfl, hlh, hhl, rfl, hs⟩
  rw [slices_BinarySearchFunc___impl_Box_impl_Box_string__l3_eq]
  by_cases hlt : lo < hi
  ·have a1 : vBinV (.int .i64) .add (.int .i64 (lo : Int)) (.int .i64 (hi : Int)) = some (.int .i64 ((lo + hi : Nat) : Int)) := n_addN _ lo hi (by omega)
   have a2 := cv_u (lo + hi) (by omega)
   have a3 := sh_half (lo + hi) (by omega)
   have a4 := cv_i ((lo + hi) / 2) (by omega)
   have hm : (lo + hi) / 2 < l.length := by omega
   generalize hmm : (lo + hi) / 2 = mid at *
   have i1 := vX_idx false l .i64 mid hm
   have e1 := boxPlace_1_c l[mid] p
   have a5 : vBinV (.int .i64) .add (.int .i64 (mid : Int)) (.int .i64 1) = some (.int .i64 ((mid + 1 : Nat) : Int)) := n_addN _ mid 1 (by omega)
   have hat := boxAt_get hm
   rw [eX_e] at e1 i1
   unfold cmpN at e1
   by_cases h1 : ltT l[mid].path p = true
   ·simp only [h1, if_true] at e1
    simp only [evv, a1, a2, a3, a4, a5, i1, e1, show ((lo : Int) < (hi : Int)) from by omega, show ((-1 : Int) < 0) from by omega]
    refine ⟨_, rfl, .inr ⟨rfl, hi - (mid + 1), by omega, mid + 1, hi, rfl, by omega, by omega, rfl, fun so => ⟨fun j hj => ?_, (hs so).2⟩⟩⟩
    by_cases hje : j = mid
    ·subst hje; rw [hat]; exact h1
    ·have := so j mid (by omega) hm
     rw [hat] at this
     exact bl_trans this h1
   ·have h1' : ltT l[mid].path p = false := by simpa using h1
    have hge : ∃ c : Int, 0 <= c /\ qc id_impl_boxPlace_1 [.agg [.str l[mid].path, .sl false (vR eM l[mid].mails)], .str p] = some (.int .i64 c) := by
     rw [e1]
     simp only [h1', Bool.false_eq_true, if_false]
     split
     ·exact ⟨0, by omega, rfl⟩
     ·exact ⟨1, by omega, rfl⟩
    obtain ⟨c, hc, e1'⟩ := hge
    simp only [evv, a1, a2, a3, a4, a5, i1, e1', show ((lo : Int) < (hi : Int)) from by omega, show ¬ (c < 0) from by omega]
    refine ⟨_, rfl, .inr ⟨rfl, mid - lo, by omega, lo, mid, rfl, by omega, by omega, rfl, fun so => ⟨(hs so).1, fun j h2 h3 => ?_⟩⟩⟩
    by_cases hje : j = mid
    ·subst hje; rw [hat]; exact h1'
    ·have hlt2 := so mid j (by omega) h3
     rw [hat] at hlt2
     cases hq : ltT (boxAt l j).path p with
     | false => rfl
     | true => exact absurd (bl_trans hlt2 hq) h1
  ·have : lo = hi := by omega
   subst this
   simp only [evv, show ¬ ((lo : Int) < (lo : Int)) from by omega]
   exact ⟨_, rfl, .inl ⟨0, rfl, rfl, lo, hhl, rfl, hs⟩⟩
 rintro _ _ H ⟨rfl, lo, hlo, rfl, hs⟩
 by_cases hlt : lo < l.length
 ·have i1 := vX_idx false l .i64 lo hlt
  have e1 := boxPlace_1_c l[lo] p
  have hat := boxAt_get hlt
  rw [eX_e] at e1 i1
  have hdec : (cmpN l[lo].path p = 0) ↔ ((boxAt l lo).path = p) := by
   rw [hat]
   unfold cmpN
   by_cases h1 : ltT l[lo].path p = true
   ·simp only [h1, if_true]
    constructor
    ·intro h; omega
    ·intro h
     rw [h] at h1
     have := bl_irr p
     unfold ltT at h1
     rw [this] at h1; cases h1
   ·simp only [h1, if_false]
    by_cases h2 : l[lo].path = p
    ·simp [h2]
    ·simp [h2]
  simp only [evv, i1, e1, show ((lo : Int) < (l.length : Int)) from by omega]
  refine Gets.here ⟨lo, hlo, ?_, fun so => ⟨(hs so).1, fun h => (hs so).2 lo (Nat.le_refl _) h⟩⟩
  rw [decide_eq_true hlt, Bool.true_and, <- decide_eq_decide.2 hdec]
 ·simp only [evv, show ¬ ((lo : Int) < (l.length : Int)) from by omega]
  refine Gets.here ⟨lo, hlo, ?_, fun so => ⟨(hs so).1, fun h => (hs so).2 lo (Nat.le_refl _) h⟩⟩
  rw [decide_eq_false hlt, Bool.false_and]
theorem boxPlace_g (l : List Box) (p : Bs) (hl : l.length <= 1000000000) : ∃ (i : Nat) (k : Bool), i <= l.length /\ qc id_impl_boxPlace [.sl false (vR eX l), .str p] = some (.tup [.int .i64 (i : Nat), .bool k]) /\ (k = true -> i < l.length) ∧
 (SortX l -> k = l.any (isP p) /\ (k = true -> i = l.findIdx (isP p)) /\ (∀ j, j < i -> ltT (boxAt l j).path p = true) /\ (i < l.length -> ltT (boxAt l i).path p = false)) := by
 obtain ⟨i, hi, e, hs⟩ := BinSearch_g l p hl
 refine ⟨i, decide (i < l.length) && decide ((boxAt l i).path = p), hi, qc_of (H := []) ?_ (by simp only [evv]) rfl, fun h => by rw [Bool.and_eq_true, decide_eq_true_eq] at h; exact h.1, fun so => ?_⟩
 ·show cv _ _ _ = _
  rw [impl_boxPlace_eq]
  simp only [evv, e]
 ·obtain ⟨h1, h2⟩ := hs so
  have hin : ∀ (j : Nat) (hj : j < l.length), isP p l[j] = true -> j = i := fun j hj hp => by
   have hp : l[j].path = p := of_decide_eq_true hp
   have hjat := boxAt_get hj
   rcases Nat.lt_trichotomy j i with h | h | h
   ·have := h1 j h
    rw [hjat, hp] at this
    unfold ltT at this; rw [bl_irr] at this; cases this
   ·exact h
   ·have hi' : i < l.length := by omega
    have a := h2 hi'
    have b := so i j h hj
    rw [hjat, hp] at b
    rw [b] at a; cases a
  have hk : (decide (i < l.length) && decide ((boxAt l i).path = p)) = l.any (isP p) := by
   rw [Bool.eq_iff_iff, Bool.and_eq_true, decide_eq_true_eq, decide_eq_true_eq, List.any_eq_true]
   constructor
   ·rintro ⟨h, g⟩
    exact ⟨l[i], List.getElem_mem h, by rw [boxAt_get h] at g; exact decide_eq_true g⟩
   ·rintro ⟨b, hb, g⟩
    obtain ⟨j, hj, rfl⟩ := List.getElem_of_mem hb
    have := hin j hj g
    subst this
    exact ⟨hj, by rw [boxAt_get hj]; exact of_decide_eq_true g⟩
  refine ⟨hk, fun h => ?_, h1, h2⟩
  rw [hk] at h
  have hx := findIdx_isP h
  exact (hin _ hx (List.findIdx_getElem (w := hx))).symm
end Go.Proofs.YtpmpggihngmnoaaGreatDoor.Q
