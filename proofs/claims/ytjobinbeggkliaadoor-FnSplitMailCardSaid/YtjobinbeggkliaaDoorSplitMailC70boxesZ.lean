/- Contracts: valid mailboxes, and how many mails they hold. -/
import Derived.Test.YtjobinbeggkliaaDoorSplitMailC68sizeZ
namespace Go.Proofs.YtjobinbeggkliaaDoor.Q
open Go Go.AM
set_option linter.unusedSimpArgs false
set_option linter.unusedVariables false
set_option linter.unusedSectionVars false
def ltT (a b : Bs) : Bool := Op.bytesLess a b
theorem t_geq (tk : TK) (s t : Bs) : vBinV tk .geq (.str s) (.str t) = some (.bool (!ltT s t)) := by
  simp only [vBinV, toA, vBin, vStrOp, ofA, Option.bind_some, ByteArray.toList_eq]
  rfl
def boxAt (l : List Box) (i : Nat) : Box := l.getD i ⟨[], []⟩
theorem boxAt_get {l : List Box} {i : Nat} (h : i < l.length) : boxAt l i = l[i] := by
  unfold boxAt
  rw [List.getD_eq_getElem?_getD, List.getElem?_eq_getElem h]; rfl
def badX (l : List Box) (i : Nat) : Bool := !pathT (boxAt l i).path || (decide (4 < (boxAt l i).mails.length) || ((decide (0 < i) && !ltT (boxAt l (i - 1)).path (boxAt l i).path) || (boxAt l i).mails.any fun m => !mailT m 1 30))
def boxesT (l : List Box) : Bool := decide (l.length ≤ 8) && !(List.range l.length).any (badX l)
theorem lv_anyN {B : List V → VH → Option (Option Nat × List V × VH)} {S : Nat → List V} {H : VH} {m0 m1 : Nat} {vs0 vs1 : List V} (n : Nat) (p : Nat → Bool) (hr : ∀ i, i < n → B (S i) H = if p i = true then some (some m1, vs1, H) else some (none, S (i + 1), H))
    (he : B (S n) H = some (some m0, vs0, H)) : lpW' B (S 0) H = if (List.range n).any p = true then some (m1, vs1, H) else some (m0, vs0, H) :=
  lv_any (List.range n) p (fun i hi => by
    have h : i < n := by simpa using hi
    rw [List.getElem_range]; exact hr i h) (by rw [List.length_range]; exact he)

def heldN (l : List Box) : Nat := (l.map fun b => b.mails.length).sum
def cheldN (l : List Box) : Nat := if boxesT l = true then heldN l else 0
theorem heldN_take {l : List Box} {i : Nat} (h : i < l.length) : heldN (l.take (i + 1)) = heldN (l.take i) + l[i].mails.length := by
  unfold heldN
  rw [List.take_succ_eq_append_getElem h, List.map_append, List.sum_append]; simp
theorem heldN_le {l : List Box} (h : SmXs l) : ∀ i, heldN (l.take i) ≤ i * 1048576
  | 0 => by simp [heldN]
  | i + 1 => by
    have ih := heldN_le h i
    by_cases hi : i < l.length
    · rw [heldN_take hi]
      have := (h.2 _ (List.getElem_mem hi)).2.1
      omega
    · rw [List.take_of_length_le (by omega)] at ih ⊢
      exact Nat.le_trans ih (Nat.mul_le_mul_right _ (Nat.le_succ i))


end Go.Proofs.YtjobinbeggkliaaDoor.Q
