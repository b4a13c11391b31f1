/- Contracts: hops of a mail. -/
import Derived.Test.YtjobinbeggkliabDoorExactSpeakMailC50mailZ
namespace Go.Proofs.YtjobinbeggkliabDoor.Q
open Go Go.AM
set_option linter.unusedSimpArgs false
set_option linter.unusedVariables false
set_option linter.unusedSectionVars false
def preT (s t : Bs) : Bool := decide (s.take t.length = t)
def recB : Bs := [114, 101, 99, 101, 105, 118, 101, 100, 58]
def hopB (l : Bs) : Bool := preT (lowT l) recB
def hopsN : List Bs -> Nat
 | [] => 0
 | l :: r => if l = [] then 0 else (if hopB l = true then 1 else 0) + hopsN r
theorem sHasPrefix_c (s t : Bs) (hs : s.length <= 1000000000) : qc id_internal_stringslite_HasPrefix [.str s, .str t] = some (.bool (preT s t)) := by
 refine qc_of (H := []) ?_ (by simp only [evv]) rfl
 show cv _ _ _ = _
 rw [internal_stringslite_HasPrefix_eq]
 by_cases h : t.length <= s.length
 ·have p1 := t_pre s .i64 t.length h
  simp only [evv, p1, preT, show ((s.length : Int) ≥ (t.length : Int)) from by omega]
 ·have : ¬ s.take t.length = t := fun e => by
   have := congrArg List.length e
   simp at this; omega
  simp only [evv, preT, this, show ¬ ((s.length : Int) ≥ (t.length : Int)) from by omega]
theorem HasPrefix_c (s t : Bs) (hs : s.length <= 1000000000) : qc id_strings_HasPrefix [.str s, .str t] = some (.bool (preT s t)) := by
 have e1 := sHasPrefix_c s t hs
 refine qc_of (H := []) ?_ (by simp only [evv]) rfl
 show cv _ _ _ = _
 rw [strings_HasPrefix_eq]
 simp only [evv, e1]
def chN (m : Mail) : Int := if mailT m 1 30 = true then (hopsN m.lines : Nat) else 0
end Go.Proofs.YtjobinbeggkliabDoor.Q
