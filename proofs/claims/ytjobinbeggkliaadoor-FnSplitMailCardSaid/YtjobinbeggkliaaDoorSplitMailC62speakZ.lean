/- Contracts: mails spoken as lines. -/
import Derived.Test.YtjobinbeggkliaaDoorSplitMailC60hopsZ
namespace Go.Proofs.YtjobinbeggkliaaDoor.Q
open Go Go.AM
set_option linter.unusedSimpArgs false
set_option linter.unusedVariables false
set_option linter.unusedSectionVars false
def stuffT (l : Bs) : Bs := if preT l [46] = true then 46 :: l else l
def rcptT (t : Bs) : Bs := [82, 67, 80, 84, 32, 84, 79, 58, 60] ++ t ++ [62]
def fromL (f : Bs) : Bs := [77, 65, 73, 76, 32, 70, 82, 79, 77, 58, 60] ++ f ++ [62]
def headL (m : Mail) : List Bs := [fromL m.from_] ++ m.to.map rcptT ++ [[68, 65, 84, 65]]
def spokeB (m : Mail) : Bool := mailT m 1 30 && !(m.lines.any fun l => !textT (stuffT l))
def spokeL (m : Mail) : List Bs := if spokeB m = true then headL m ++ m.lines.map stuffT ++ [[46]] else []
theorem stuffT_len (l : Bs) : (stuffT l).length ≤ l.length + 1 := by unfold stuffT; split <;> simp
theorem wr_mem {p : Int → Bool} {s : Bs} (h : ∀ b ∈ s, p b.toNat = false) : (s.any fun b => p b.toNat) = false := by
  rw [List.any_eq_false]; intro b hb; simp [h b hb]
theorem loc_text {s : Bs} (h : locT s = true) : (∀ b ∈ s, wrB b.toNat = false) ∧ s.length ≤ 30 := by
  simp only [locT, Bool.and_eq_true, Bool.not_eq_true', List.any_eq_false, decide_eq_true_eq] at h
  refine ⟨fun b hb => ?_, h.1⟩
  rcases splitB_mem 46 s b hb with rfl | ⟨t, h1, h2⟩
  · rfl
  · have h3 : atomT t = true := by have := h.2 t h1; simpa using this
    simp only [atomT, Bool.and_eq_true, List.all_eq_true] at h3
    have h4 := h3.2 b h2
    simp only [atomB, decide_eq_true_eq] at h4
    exact decide_eq_false (by omega)
theorem dom_text {s : Bs} (h : domT s = true) : (∀ b ∈ s, wrB b.toNat = false) ∧ s.length ≤ 40 := by
  simp only [domT, Bool.and_eq_true, Bool.not_eq_true', List.any_eq_false, decide_eq_true_eq] at h
  refine ⟨fun b hb => ?_, h.1⟩
  rcases splitB_mem 46 s b hb with rfl | ⟨t, h1, h2⟩
  · rfl
  · have h3 : labT t = true := by have := h.2 t h1; simpa using this
    simp only [labT, Bool.and_eq_true, List.all_eq_true] at h3
    have h4 := h3.2 b h2
    simp only [labB, decide_eq_true_eq] at h4
    exact decide_eq_false (by omega)
theorem path_text {s : Bs} (h : pathT s = true) : (∀ b ∈ s, wrB b.toNat = false) ∧ s.length ≤ 71 := by
  simp only [pathT, Bool.and_eq_true, decide_eq_true_eq] at h
  have hc := path_cut h.1
  have h1 := loc_text h.2.1
  have h2 := dom_text h.2.2
  constructor
  · intro b hb
    rw [hc] at hb
    rcases List.mem_append.1 hb with hb | hb
    · rcases List.mem_append.1 hb with hb | hb
      · exact h1.1 b hb
      · simp at hb; subst hb; rfl
    · exact h2.1 b hb
  · have := congrArg List.length hc
    simp at this; omega
theorem text_of {s : Bs} (h : ∀ b ∈ s, wrB b.toNat = false) (hl : s.length ≤ 200) : textT s = true := by
  unfold textT
  rw [wr_mem h, decide_eq_true hl]; rfl
theorem text_wrap {a s z : Bs} (ha : (a.all fun b => !wrB b.toNat) = true) (hz : (z.all fun b => !wrB b.toNat) = true) (h : ∀ b ∈ s, wrB b.toNat = false) (hl : a.length + s.length + z.length ≤ 200) : textT (a ++ s ++ z) = true := by
  refine text_of (fun b hb => ?_) (by simp; omega)
  rcases List.mem_append.1 hb with hb | hb
  · rcases List.mem_append.1 hb with hb | hb
    · have := List.all_eq_true.1 ha b hb; simpa using this
    · exact h b hb
  · have := List.all_eq_true.1 hz b hb; simpa using this
theorem head_text {m : Mail} (h : mailT m 1 30 = true) : ((headL m).any fun t => !textT t) = false := by
  simp only [mailT, Bool.and_eq_true, Bool.not_eq_true', List.any_eq_false, fromT, Bool.or_eq_true, decide_eq_true_eq] at h
  rw [List.any_eq_false]
  intro t ht
  have key : textT t = true := by
    simp only [headL, List.mem_append, List.mem_singleton, List.mem_map] at ht
    rcases ht with (rfl | ⟨p, hp, rfl⟩) | rfl
    · rcases h.1 with h0 | h0
      · rw [h0]; rfl
      · have := path_text h0
        exact text_wrap (by decide) (by decide) this.1 (by simp; omega)
    · have h0 : pathT p = true := by have := h.2.2.2.1 p hp; simpa using this
      have := path_text h0
      exact text_wrap (by decide) (by decide) this.1 (by simp; omega)
    · rfl
  simp [key]
theorem sl_app {l k : List Bs} (h : l.length + k.length ≤ 4000000) : appV false 1 16 (vT l) (.sl true (vT k)) = some (.sl true (vT (l ++ k))) := by
  have := v_app 1 16 (vT l) true (vT k) (vT_esz l) (vT_esz k) (by rw [vT_len, vT_len]; omega)
  rw [vT_app] at this
  exact this
theorem sl_app1 {l : List Bs} (s : Bs) (h : l.length + 1 ≤ 4000000) : appV false 1 16 (vT l) (.sl true [[.str s]]) = some (.sl true (vT (l ++ [s]))) := sl_app (k := [s]) (by simpa using h)

def longL (l : Bs) : Bool := decide (l.length = 200) && decide (l.head? = some 46)
theorem pre_dot (l : Bs) : preT l [46] = decide (l.head? = some 46) := by
  unfold preT
  cases l with
  | nil => rfl
  | cons b r => simp
theorem long_text {l : Bs} (h : textT l = true) : textT (stuffT l) = !longL l := by
  simp only [textT, Bool.and_eq_true, Bool.not_eq_true', decide_eq_true_eq] at h
  unfold stuffT longL
  rw [pre_dot]
  by_cases h1 : l.head? = some 46
  · rw [if_pos (decide_eq_true h1), decide_eq_true h1, Bool.and_true]
    unfold textT
    rw [List.any_cons, h.1, show wrB ((46 : UInt8).toNat : Int) = false from rfl]
    by_cases h2 : l.length = 200
    · rw [decide_eq_true h2, decide_eq_false (by simp; omega)]; rfl
    · rw [decide_eq_false h2, decide_eq_true (by simp; omega)]; rfl
  · rw [if_neg (by simpa using h1), decide_eq_false h1, Bool.and_false]
    unfold textT
    rw [h.1, decide_eq_true h.2]; rfl


end Go.Proofs.YtjobinbeggkliaaDoor.Q
