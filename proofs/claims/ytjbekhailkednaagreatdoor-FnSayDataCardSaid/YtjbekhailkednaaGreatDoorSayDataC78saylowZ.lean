/- Laws of a dialogue: lines of a message; letters do not matter; refusals change nothing. -/
import Derived.Test.YtjbekhailkednaaGreatDoorSayDataC76saylawZ
namespace Go.Proofs.YtjbekhailkednaaGreatDoor.Q
open Go Go.AM
set_option linter.unusedSimpArgs false
set_option linter.unusedVariables false
theorem FnSayData_v (u : V) (h : HasArg (.sl (.int .u8)) u) : ∃ H, cv id_laws_FnSayData [u] [] = some (.bool true, H) := by
  obtain ⟨xs, rfl⟩ := argB h
  suffices hg : Gets (cv id_laws_FnSayData [.sl false (vB xs)] []) fun r => r.1 = .bool true by
    obtain ⟨⟨v, H⟩, e, h⟩ := hg
    cases h
    exact ⟨H, e⟩
  rw [laws_FnSayData_eq]
  simp only [evv, Nat.zero_add, if_true, if_false, decide_true, decide_false, Bool.false_eq_true, Bool.not_true, Bool.not_false, decide_eq_true_eq]
  refine Gets.ite (fun h => ?_) (fun h => ?_)
  · exact Gets.here rfl
  · refine (DrawSayLine_g xs).bind ?_
    rintro _ H1 ⟨_, s, line, rfl, ⟨x, y, z, rfl, hx, hy, hz⟩, hs, hl⟩
    have f1 := impl_SayLine_c s line hs (by omega) (by omega)
    have f2 := spec_SayLine_g s (.agg [.int .i64 s.state, .str s.host, .str s.draft.from_, x, y, z]) line H1 ⟨x, y, z, rfl, hx, hy, hz⟩ hs (by omega) (by omega)
    have hS : SzS 231 (sayS s line) := sayS_sz hs (by omega)
    have key1 : sayB s line = true → s.state = 4 → line = [46] → (sayS s line).state = 1 ∧ (sayS s line).draft = noM ∧ sayN s line ≠ 0 := by
      intro h1 h2 h3
      have hF : sayF s line = dataF s line := by unfold sayF; rw [if_pos h2]
      have hSe : sayS s line = (dataF s line).1 := by unfold sayS; rw [if_pos h1, hF]
      have hNe : sayN s line = (dataF s line).2 := by unfold sayN; rw [if_pos h1, hF]
      rw [hSe, hNe]
      unfold dataF
      rw [if_pos h3]
      split
      · exact ⟨rfl, rfl, by simp⟩
      · split <;> exact ⟨rfl, rfl, by simp⟩
    have key2 : sayB s line = true → s.state = 4 → line ≠ [46] → (sayS s line).state = 4 ∧ sayN s line = 0 ∧ s.draft.lines.length ≤ (sayS s line).draft.lines.length ∧ (sayS s line).done.length = s.done.length := by
      intro h1 h2 h3
      have hF : sayF s line = dataF s line := by unfold sayF; rw [if_pos h2]
      have hSe : sayS s line = (dataF s line).1 := by unfold sayS; rw [if_pos h1, hF]
      have hNe : sayN s line = (dataF s line).2 := by unfold sayN; rw [if_pos h1, hF]
      rw [hSe, hNe]
      unfold dataF
      rw [if_neg h3]
      split
      · exact ⟨h2, rfl, by simp, rfl⟩
      · exact ⟨h2, rfl, Nat.le_refl _, rfl⟩
    generalize sayS s line = t at *
    generalize sayN s line = c at *
    have m1 := impl_SessionSame_c t t (hS.sm (by omega))
    have m2 : t.draft = noM → qc id_impl_MailSame [.agg [.str t.draft.from_, .sl false (vT t.draft.to), .sl false (vT t.draft.lines)], .agg [.str [], .sl false [], .sl false []]] = some (.bool true) := fun e => (impl_MailSame_c t.draft noM ((hS.sm (by omega)).2.1)).trans (by rw [decide_eq_true e])
    simp only [cS_e, cSo_e] at f1 f2 m1
    simp only [evv, Nat.zero_add, if_true, if_false, decide_true, decide_false, Bool.false_eq_true, Bool.not_true, Bool.not_false, hx, hy, hz, f1]
    refine f2.bind ?_
    rintro _ H2 ⟨rfl, -⟩
    by_cases hb : sayB s line = true
    · by_cases h4 : s.state = 4
      · by_cases h5 : line = [46]
        · obtain ⟨k1, k2, k3⟩ := key1 hb h4 h5
          have m2' := m2 k2
          have hb2 := hb
          rw [h5] at hb2
          rw [k1] at m1
          simp only [evv, Nat.zero_add, if_true, if_false, decide_true, decide_false, Bool.false_eq_true, Bool.not_true, Bool.not_false, hx, hy, hz, vO_strip, m1, m2', hb2, h4, h5, k1, k3]
          exact Gets.here rfl
        · obtain ⟨k1, k2, k3, k4⟩ := key2 hb h4 h5
          rw [k1] at m1
          simp only [evv, Nat.zero_add, if_true, if_false, decide_true, decide_false, Bool.false_eq_true, Bool.not_true, Bool.not_false, hx, hy, hz, vO_strip, m1, hb, h4, h5, k1, k2, k4, show ((t.draft.lines.length : Int) ≥ (s.draft.lines.length : Int)) from by omega]
          exact Gets.here rfl
      · simp only [evv, Nat.zero_add, if_true, if_false, decide_true, decide_false, Bool.false_eq_true, Bool.not_true, Bool.not_false, hx, hy, hz, vO_strip, m1, hb, h4]
        exact Gets.here rfl
    · simp only [evv, Nat.zero_add, if_true, if_false, decide_true, decide_false, Bool.false_eq_true, Bool.not_true, Bool.not_false, hx, hy, hz, vO_strip, m1, hb]
      exact Gets.here rfl


end Go.Proofs.YtjbekhailkednaaGreatDoor.Q
