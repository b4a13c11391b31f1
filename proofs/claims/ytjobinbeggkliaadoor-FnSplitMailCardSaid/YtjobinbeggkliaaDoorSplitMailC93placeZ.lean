/- Contracts: a path's place among mailboxes in order. -/
import Derived.Test.YtjobinbeggkliaaDoorSplitMailC92deliverZ
namespace Go.Proofs.YtjobinbeggkliaaDoor.Q
open Go Go.AM
set_option linter.unusedSimpArgs false
set_option linter.unusedVariables false
set_option linter.unusedSectionVars false
theorem t_lss (tk : TK) (s t : Bs) : vBinV tk .lss (.str s) (.str t) = some (.bool (ltT s t)) := by
  simp only [vBinV, toA, vBin, vStrOp, ofA, Option.bind_some, ByteArray.toList_eq]
  rfl
theorem t_gtr (tk : TK) (s t : Bs) : vBinV tk .gtr (.str s) (.str t) = some (.bool (!(ltT s t || decide (s = t)))) := by
  simp only [vBinV, toA, vBin, vStrOp, ofA, Option.bind_some, ByteArray.toList_eq]
  have : (s == t) = decide (s = t) := by rw [Bool.eq_iff_iff, beq_iff_eq, decide_eq_true_iff]
  show some (V.bool (!(Op.bytesLess s t || s == t))) = _
  rw [this]; rfl
def cmpN (s t : Bs) : Int := if ltT s t = true then -1 else if s = t then 0 else 1
def SortX (l : List Box) : Prop := ∀ i j, i < j → j < l.length → ltT (boxAt l i).path (boxAt l j).path = true
theorem sort_of {l : List Box} (h : boxesT l = true) : SortX l := by
  unfold boxesT at h
  rw [Bool.and_eq_true, Bool.not_eq_true'] at h
  have step : ∀ j, 0 < j → j < l.length → ltT (boxAt l (j - 1)).path (boxAt l j).path = true := fun j h0 hj => by
    have := List.any_eq_false.1 h.2 j (by simpa using hj)
    unfold badX at this
    simp only [Bool.or_eq_true, not_or, Bool.and_eq_true, decide_eq_true_eq, Bool.not_eq_true'] at this
    have := this.2.2.1
    cases hq : ltT (boxAt l (j - 1)).path (boxAt l j).path with
    | true => rfl
    | false => exact absurd ⟨h0, hq⟩ this
  intro i j hij hj
  induction j with
  | zero => omega
  | succ j ih =>
    have s := step (j + 1) (by omega) hj
    rw [Nat.add_sub_cancel] at s
    by_cases e : i = j
    · subst e; exact s
    · exact bl_trans (ih (by omega) (by omega)) s
theorem sh_half (n : Nat) (h : n ≤ 4611686018427387904) : vBinV (.int .u64) .shr (.int .u64 (n : Int)) (.int .u64 1) = some (.int .u64 ((n / 2 : Nat) : Int)) := by
  have : Int.fdiv (n : Int) 2 = ((n / 2 : Nat) : Int) := by
    rw [Int.fdiv_eq_ediv_of_nonneg _ (by omega)]; omega
  simp only [vBinV, toA, vBin, Option.bind_some]
  rw [if_pos (by omega)]
  show some (V.int .u64 (Int.fdiv (n : Int) (2 ^ 1))) = _
  rw [show ((2 : Int) ^ 1) = 2 from rfl, this]
theorem cv_u (n : Nat) (h : n ≤ 4611686018427387904) : vConvV .u64 (.int .i64 (n : Int)) = some (.int .u64 (n : Int)) := by
  simp [vConvV, IntWalk.u64_in (n : Int) ⟨by omega, by omega⟩]
theorem cv_i (n : Nat) (h : n ≤ 4611686018427387904) : vConvV .i64 (.int .u64 (n : Int)) = some (.int .i64 (n : Int)) := by
  simp [vConvV, IntWalk.i64_in (n : Int) ⟨by omega, by omega⟩]


end Go.Proofs.YtjobinbeggkliaaDoor.Q
