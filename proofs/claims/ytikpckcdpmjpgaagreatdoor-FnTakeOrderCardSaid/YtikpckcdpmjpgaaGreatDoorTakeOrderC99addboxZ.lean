/- Contracts: mailboxes are added, the program's way. -/
import Derived.Test.YtikpckcdpmjpgaaGreatDoorTakeOrderC98splitZ
import Derived.Test.YtikpckcdpmjpgaaGreatDoorFnTakeOrderK4
namespace Go.Proofs.YtikpckcdpmjpgaaGreatDoor.Q
open Go Go.AM
set_option linter.unusedSimpArgs false
set_option linter.unusedVariables false
set_option linter.unusedSectionVars false
theorem boxes_iff (l : List Box) : boxesT l = true ↔ l.length ≤ 8 ∧ (∀ b ∈ l, pathT b.path = true ∧ b.mails.length ≤ 4 ∧ ∀ m ∈ b.mails, mailT m 1 30 = true) ∧ SortX l := by
  constructor
  · intro h
    have so := sort_of h
    unfold boxesT at h
    rw [Bool.and_eq_true, decide_eq_true_eq, Bool.not_eq_true', List.any_eq_false] at h
    refine ⟨h.1, fun b hb => ?_, so⟩
    obtain ⟨i, hi, rfl⟩ := List.getElem_of_mem hb
    have := h.2 i (by simpa using hi)
    unfold badX at this
    rw [boxAt_get hi] at this
    simp only [Bool.or_eq_true, not_or, Bool.not_eq_true, decide_eq_false_iff_not, Bool.not_eq_false', List.any_eq_false, Bool.not_eq_true', Bool.not_eq_false] at this
    exact ⟨this.1, by have := this.2.1; omega, fun m hm => this.2.2.2 m hm⟩
  · rintro ⟨h1, h2, so⟩
    unfold boxesT
    rw [Bool.and_eq_true, decide_eq_true_eq, Bool.not_eq_true', List.any_eq_false]
    refine ⟨h1, fun i hi => ?_⟩
    have hi : i < l.length := by simpa using hi
    have hb := h2 _ (boxAt_mem hi)
    unfold badX
    simp only [Bool.or_eq_true, not_or, Bool.not_eq_true, decide_eq_false_iff_not, Bool.not_eq_false', List.any_eq_false, Bool.not_eq_true', Bool.not_eq_false]
    refine ⟨hb.1, by have := hb.2.1; omega, ?_, fun m hm => hb.2.2 m hm⟩
    rw [Bool.and_eq_false_iff]
    by_cases h0 : 0 < i
    · right
      rw [so (i - 1) i (by omega) hi]; rfl
    · left; simpa using h0
end Go.Proofs.YtikpckcdpmjpgaaGreatDoor.Q
