/- Contracts: valid sessions. -/
import Derived.Test.YtjpkhkndkockiaaGreatDoorExactSayAllC64validZ
namespace Go.Proofs.YtjpkhkndkockiaaGreatDoor.Q
open Go Go.AM
set_option linter.unusedSimpArgs false
set_option linter.unusedVariables false
set_option linter.unusedSectionVars false
def stateT (st : Int) (host from_ : Bs) (to lines : Nat) : Bool := decide (st ≠ 5 -> ((host = []) ↔ (st = 0))) && (decide ((0 < to) ↔ (st = 3 ∨ st = 4)) && (decide (0 < lines -> st = 4) && decide (from_ = [] ∨ st = 2 ∨ st = 3 ∨ st = 4)))
def sessT (s : Session) : Bool := decide (0 <= s.state /\ s.state <= 5) && (mailT s.draft 0 31 && ((decide ((s.done.length : Int) <= 5) && !s.done.any fun m => !mailT m 1 30) && ((decide (s.host = []) || domT s.host) && stateT s.state s.host s.draft.from_ s.draft.to.length s.draft.lines.length)))
theorem impl_SessionValid_c (s : Session) (h : SmS s) : qc id_impl_SessionValid [.agg (cS s)] = some (.bool (sessT s)) := by
 have e1 := draftValid_c s.draft 0 31 h.2.1
 have e2 := mailsValid_c s.done 5 h.2.2
 have e3 := isDomain_c s.host (by have := h.1; omega)
 simp only [cM_e] at e1
 refine qc_of (H := []) ?_ (by simp only [evv]) rfl
 show cv _ _ _ = _
 rw [impl_SessionValid_eq]
 unfold sessT
 obtain ⟨st, host, ⟨from_, to, lines⟩, done⟩ := s
 by_cases h1 : st < 0
 ·simp only [evv, h1, show ¬ (0 <= st /\ st <= 5) from by omega, Bool.false_and]
 ·by_cases h2 : st > 5
  ·simp only [evv, h1, h2, show ¬ (0 <= st /\ st <= 5) from by omega, Bool.false_and]
  ·simp only [show (0 <= st /\ st <= 5) from by omega, decide_true, Bool.true_and]
   by_cases h3 : mailT ⟨from_, to, lines⟩ 0 31 = true
   ·by_cases h4 : (decide ((done.length : Int) <= 5) && !done.any fun m => !mailT m 1 30) = true
    ·by_cases h5 : host = []
     ·subst h5
      have hst : st = 0 ∨ st = 1 ∨ st = 2 ∨ st = 3 ∨ st = 4 ∨ st = 5 := by omega
      simp only [evv, h1, h2, e1, e2, h3, h4, Bool.true_and, Bool.true_or]
      clear e1 e2 e3 h3 h4 h
      by_cases t1 : to.length = 0 <;> by_cases t2 : lines.length = 0 <;> by_cases t3 : from_ = [] <;> rcases hst with rfl | rfl | rfl | rfl | rfl | rfl <;>
       simp [evv, t1, t2, t3, stateT, Nat.pos_iff_ne_zero]
     ·by_cases h6 : domT host = true
      ·have hst : st = 0 ∨ st = 1 ∨ st = 2 ∨ st = 3 ∨ st = 4 ∨ st = 5 := by omega
       simp only [evv, h1, h2, e1, e2, e3, h3, h4, h5, h6, Bool.true_and, Bool.false_or]
       clear e1 e2 e3 h3 h4 h
       by_cases t1 : to.length = 0 <;> by_cases t2 : lines.length = 0 <;> by_cases t3 : from_ = [] <;> rcases hst with rfl | rfl | rfl | rfl | rfl | rfl <;>
        simp [evv, h5, t1, t2, t3, stateT, Nat.pos_iff_ne_zero]
      ·simp [evv, h1, h2, e1, e2, e3, h3, h4, h5, h6]
    ·simp [evv, h1, h2, e1, e2, h3, h4]
   ·simp [evv, h1, h2, e1, h3]
theorem spec_SessionValid_c (s : Session) (h : SmS s) : qc id_spec_SessionValid [.agg (cS s)] = some (.bool (sessT s)) := by
 have e1 := l10Draft_c s.draft h.2.1
 have e3 := l2Domain_c s.host (by have := h.1; omega)
 have hd := h.2.2.1
 simp only [cM_e] at e1
 refine qc_of (H := []) ?_ (by simp only [evv]) rfl
 show cv _ _ _ = _
 rw [spec_SessionValid_eq]
 have loop := lv_any (B := spec_SessionValid_l5) (S := fun i => [.int .i64 (i : Nat), .int .i64 s.state, .str s.host, .str s.draft.from_, .sl false (vT s.draft.to), .sl false (vT s.draft.lines), .sl false (vR eM s.done), .str s.draft.from_, .sl false (vT s.draft.to), .sl false (vT s.draft.lines)]) (H := []) (m0 := 0) (m1 := 1) (vs0 := [.int .i64 s.state, .str s.host, .str s.draft.from_, .sl false (vT s.draft.to), .sl false (vT s.draft.lines), .sl false (vR eM s.done), .str s.draft.from_, .sl false (vT s.draft.to), .sl false (vT s.draft.lines)]) (vs1 := [.bool false]) s.done (fun m => !mailT m 1 30)
  (fun i hi => by
   have i1 := vM_idx false s.done .i64 i hi
   have e4 := spec_MailValid_c s.done[i] (h.2.2.2 _ (List.getElem_mem hi))
   simp only [cM_e] at e4
   have e2 : vBinV (.int .i64) .add (.int .i64 (i : Int)) (.int .i64 1) = some (.int .i64 ((i + 1 : Nat) : Int)) := n_addN _ i 1 (by omega)
   rw [spec_SessionValid_l5_eq]
   simp only [evv, i1, e4, e2, show ((i : Int) < (s.done.length : Int)) from by omega])
  (by
   rw [spec_SessionValid_l5_eq]
   simp only [evv, show ¬ ((s.done.length : Int) < (s.done.length : Int)) from by omega])
 have loop' : lpW' spec_SessionValid_l5 [.int .i64 0, .int .i64 s.state, .str s.host, .str s.draft.from_, .sl false (vT s.draft.to), .sl false (vT s.draft.lines), .sl false (vR eM s.done), .str s.draft.from_, .sl false (vT s.draft.to), .sl false (vT s.draft.lines)] [] = _ := loop
 have kd : draftT s.draft = mailT s.draft 0 31 := by
  unfold mailT draftT fromT
  rw [Bool.eq_iff_iff]
  simp only [Bool.and_eq_true, decide_eq_true_eq]
  constructor
  ·rintro ⟨h1, h2, h3, h4, h6⟩
   exact ⟨h1, by omega, by omega, h4, by omega, h6⟩
  ·rintro ⟨h1, h2, h3, h4, h5, h6⟩
   exact ⟨h1, by omega, by omega, h4, h6⟩
 rw [kd] at e1
 unfold sessT
 obtain ⟨st, host, ⟨from_, to, lines⟩, done⟩ := s
 clear loop kd
 by_cases h1 : st < 0
 ·simp only [evv, h1, show ¬ (0 <= st /\ st <= 5) from by omega, Bool.false_and]
 ·by_cases h2 : st > 5
  ·simp only [evv, h1, h2, show ¬ (0 <= st /\ st <= 5) from by omega, Bool.false_and]
  ·simp only [show (0 <= st /\ st <= 5) from by omega, decide_true, Bool.true_and]
   by_cases h3 : mailT ⟨from_, to, lines⟩ 0 31 = true
   ·by_cases h4 : (done.length : Int) > 5
    ·have h4' : ¬ (done.length : Int) <= 5 := by omega
     by_cases h5 : host = []
     ·simp [evv, h1, h2, e1, h3, h4, h4', h5]
     ·by_cases h6 : domT host = true
      ·simp [evv, h1, h2, e1, e3, h3, h4, h4', h5, h6]
      ·simp [evv, h1, h2, e1, e3, h3, h4', h5, h6]
    ·have h4' : (done.length : Int) <= 5 := by omega
     have hst : st = 0 ∨ st = 1 ∨ st = 2 ∨ st = 3 ∨ st = 4 ∨ st = 5 := by omega
     by_cases h7 : (done.any fun m => !mailT m 1 30) = true
     ·rw [if_pos h7] at loop'
      by_cases h5 : host = []
      ·simp only [h5] at loop'
       simp only [evv, h1, h2, e1, h3, h4, h4', h5, h7, loop', Bool.and_false, Bool.false_and]
      ·by_cases h6 : domT host = true
       ·simp only [evv, h1, h2, e1, e3, h3, h4, h4', h5, h6, h7, loop', Bool.and_false, Bool.false_and]
       ·simp only [evv, h1, h2, e1, e3, h3, h4', h5, h6, h7, Bool.and_false, Bool.false_and]
     ·rw [if_neg h7] at loop'
      by_cases h5 : host = []
      ·simp only [h5] at loop'
       simp only [evv, h1, h2, e1, h3, h4, h4', h5, h7, loop', Bool.true_and, Bool.true_or]
       clear e1 e3 h3 h loop' h7
       by_cases t1 : to.length = 0 <;> by_cases t2 : lines.length = 0 <;> by_cases t3 : from_ = [] <;> rcases hst with rfl | rfl | rfl | rfl | rfl | rfl <;>
        simp [evv, t1, t2, t3, stateT, Nat.pos_iff_ne_zero]
      ·by_cases h6 : domT host = true
       ·simp only [evv, h1, h2, e1, e3, h3, h4, h4', h5, h6, h7, loop', Bool.true_and, Bool.false_or]
        clear e1 e3 h3 h loop' h7
        by_cases t1 : to.length = 0 <;> by_cases t2 : lines.length = 0 <;> by_cases t3 : from_ = [] <;> rcases hst with rfl | rfl | rfl | rfl | rfl | rfl <;>
         simp [evv, h5, t1, t2, t3, stateT, Nat.pos_iff_ne_zero]
       ·simp only [evv, h1, h2, e1, e3, h3, h4', h5, h6, h7, Bool.and_false, Bool.false_and, Bool.false_or, Bool.true_and]
   ·simp [evv, h1, h2, e1, h3]
end Go.Proofs.YtjpkhkndkockiaaGreatDoor.Q
