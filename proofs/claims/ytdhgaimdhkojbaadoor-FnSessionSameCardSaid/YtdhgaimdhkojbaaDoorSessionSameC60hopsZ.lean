/- Contracts: hops of a mail. -/
import Derived.Test.YtdhgaimdhkojbaaDoorSessionSameC50mailZ
namespace Go.Proofs.YtdhgaimdhkojbaaDoor.Q
open Go Go.AM
set_option linter.unusedSimpArgs false
set_option linter.unusedVariables false
def preT (s t : Bs) : Bool := decide (s.take t.length = t)
def recB : Bs := [114, 101, 99, 101, 105, 118, 101, 100, 58]
def hopB (l : Bs) : Bool := preT (lowT l) recB
def hopsN : List Bs → Nat
  | [] => 0
  | l :: r => if l = [] then 0 else (if hopB l = true then 1 else 0) + hopsN r
theorem hopsN_le : ∀ l : List Bs, hopsN l ≤ l.length
  | [] => Nat.le_refl _
  | l :: r => by
    have := hopsN_le r
    unfold hopsN
    split
    · omega
    · split <;> simp <;> omega

theorem spec_SameText_c (s t : Bs) (hs : s.length ≤ 1000000000) (ht : t.length ≤ 1000000000) : qc id_spec_SameText [.str s, .str t] = some (.bool (decide (lowT s = lowT t))) := by
  have e1 := spec_LowerText_c s hs
  have e2 := spec_LowerText_c t ht
  refine qc_of (H := []) ?_ (by simp only [evv, Nat.zero_add, if_true, if_false, decide_true, decide_false, Bool.false_eq_true, Bool.not_true, Bool.not_false]) rfl
  show cv _ _ _ = _
  rw [spec_SameText_eq]
  simp only [evv, Nat.zero_add, if_true, if_false, decide_true, decide_false, Bool.false_eq_true, Bool.not_true, Bool.not_false, e1, e2]

def chN (m : Mail) : Int := if mailT m 1 30 = true then (hopsN m.lines : Nat) else 0


end Go.Proofs.YtdhgaimdhkojbaaDoor.Q
