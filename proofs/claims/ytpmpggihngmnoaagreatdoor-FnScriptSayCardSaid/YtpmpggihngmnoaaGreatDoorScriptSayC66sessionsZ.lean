/- Contracts: valid sessions. -/
import Derived.Test.YtpmpggihngmnoaaGreatDoorScriptSayC64validZ
namespace Go.Proofs.YtpmpggihngmnoaaGreatDoor.Q
open Go Go.AM
set_option linter.unusedSimpArgs false
set_option linter.unusedVariables false
set_option linter.unusedSectionVars false
def stateT (st : Int) (host from_ : Bs) (to lines : Nat) : Bool := decide (st ≠ 5 -> ((host = []) ↔ (st = 0))) && (decide ((0 < to) ↔ (st = 3 ∨ st = 4)) && (decide (0 < lines -> st = 4) && decide (from_ = [] ∨ st = 2 ∨ st = 3 ∨ st = 4)))
def sessT (s : Session) : Bool := decide (0 <= s.state /\ s.state <= 5) && (mailT s.draft 0 31 && ((decide ((s.done.length : Int) <= 5) && !s.done.any fun m => !mailT m 1 30) && ((decide (s.host = []) || domT s.host) && stateT s.state s.host s.draft.from_ s.draft.to.length s.draft.lines.length)))
theorem impl_SessionValid_c (s : Session) (h : SmS s) : qc id_impl_SessionValid [.agg (cS s)] = some (.bool (sessT s)) := by
 have e1 := draftValid_c s.draft 0 31 h.2.1
 have e2 := mailsValid_c s.done 5 h.2.2
 have e3 := isDomain_c s.host (by have := h.1; omega)
 simp only [cM_e] at e1
 refine qc_of (H := []) ?_ (by simp only [evv]) rfl
 show cv _ _ _ = _
 rw [impl_SessionValid_eq]
 unfold sessT
 obtain ⟨st, host, ⟨from_, to, lines⟩, done⟩ := s
 by_cases h1 : st < 0
 ·simp only [evv, h1, show ¬ (0 <= st /\ st <= 5) from by omega, Bool.false_and]
 ·by_cases h2 : st > 5
  ·simp only [evv, h1, h2, show ¬ (0 <= st /\ st <= 5) from by omega, Bool.false_and]
  ·simp only [show (0 <= st /\ st <= 5) from by omega, decide_true, Bool.true_and]
   by_cases h3 : mailT ⟨from_, to, lines⟩ 0 31 = true
   ·by_cases h4 : (decide ((done.length : Int) <= 5) && !done.any fun m => !mailT m 1 30) = true
    ·by_cases h5 : host = []
     ·subst h5
      have hst : st = 0 ∨ st = 1 ∨ st = 2 ∨ st = 3 ∨ st = 4 ∨ st = 5 := by omega
      simp only [evv, h1, h2, e1, e2, h3, h4, Bool.true_and, Bool.true_or]
      clear e1 e2 e3 h3 h4 h
      by_cases t1 : to.length = 0 <;> by_cases t2 : lines.length = 0 <;> by_cases t3 : from_ = [] <;> rcases hst with rfl | rfl | rfl | rfl | rfl | rfl <;>
       simp [evv, t1, t2, t3, stateT, Nat.pos_iff_ne_zero]
     ·by_cases h6 : domT host = true
      ·have hst : st = 0 ∨ st = 1 ∨ st = 2 ∨ st = 3 ∨ st = 4 ∨ st = 5 := by omega
       simp only [evv, h1, h2, e1, e2, e3, h3, h4, h5, h6, Bool.true_and, Bool.false_or]
       clear e1 e2 e3 h3 h4 h
       by_cases t1 : to.length = 0 <;> by_cases t2 : lines.length = 0 <;> by_cases t3 : from_ = [] <;> rcases hst with rfl | rfl | rfl | rfl | rfl | rfl <;>
        simp [evv, h5, t1, t2, t3, stateT, Nat.pos_iff_ne_zero]
      ·simp [evv, h1, h2, e1, e2, e3, h3, h4, h5, h6]
    ·simp [evv, h1, h2, e1, e2, h3, h4]
   ·simp [evv, h1, h2, e1, h3]
end Go.Proofs.YtpmpggihngmnoaaGreatDoor.Q
