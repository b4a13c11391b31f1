/- Contracts: hops of a mail. -/
import Derived.Test.YtjobinbeggkliaaDoorNormalSplitC50mailZ
namespace Go.Proofs.YtjobinbeggkliaaDoor.Q
open Go Go.AM
set_option linter.unusedSimpArgs false
set_option linter.unusedVariables false
set_option linter.unusedSectionVars false
def preT (s t : Bs) : Bool := decide (s.take t.length = t)
def recB : Bs := [114, 101, 99, 101, 105, 118, 101, 100, 58]
def hopB (l : Bs) : Bool := preT (lowT l) recB
def hopsN : List Bs → Nat
  | [] => 0
  | l :: r => if l = [] then 0 else (if hopB l = true then 1 else 0) + hopsN r
def chN (m : Mail) : Int := if mailT m 1 30 = true then (hopsN m.lines : Nat) else 0
theorem DrawSpeakMail_g (xs : Bs) : Gets2 (cv id_spec_DrawSpeakMail [.sl false (vB xs)] []) (fun v H' => ∃ m, v = .agg (cO m) ∧ TnM m) := by
  refine Gets2.of ?_
  rw [spec_DrawSpeakMail_eq]
  refine Open_g.bind ?_
  rintro _ H0 ⟨rfl, R0⟩
  simp only [evv, Nat.zero_add, if_true, if_false, decide_true, decide_false, Bool.false_eq_true, Bool.not_true, Bool.not_false]
  refine (DrawMail_g R0 (by omega)).bind ?_
  rintro _ H1 ⟨a, rfl, ha, hal, R1⟩
  have w1 := WrongMail_g (m := a) R1 (by omega) ha (by omega)
  simp only [cM_e] at w1
  simp only [evv, Nat.zero_add, if_true, if_false, decide_true, decide_false, Bool.false_eq_true, Bool.not_true, Bool.not_false, cO_e]
  refine w1.bind ?_
  rintro _ H2 ⟨b, rfl, hb, hbl, R2⟩
  simp only [evv, Nat.zero_add, if_true, if_false, decide_true, decide_false, Bool.false_eq_true, Bool.not_true, Bool.not_false, cO_e]
  exact Gets.here ⟨b, rfl, hb⟩
end Go.Proofs.YtjobinbeggkliaaDoor.Q
