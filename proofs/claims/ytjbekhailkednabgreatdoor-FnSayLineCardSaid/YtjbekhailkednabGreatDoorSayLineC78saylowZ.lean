/- Laws of a dialogue: lines of a message; letters do not matter; refusals change nothing. -/
import Derived.Test.YtjbekhailkednabGreatDoorSayLineC76saylawZ
namespace Go.Proofs.YtjbekhailkednabGreatDoor.Q
open Go Go.AM
set_option linter.unusedSimpArgs false
set_option linter.unusedVariables false
theorem FnSayLine_v (u : V) (h : HasArg (.sl (.int .u8)) u) : ∃ H, cv id_laws_FnSayLine [u] [] = some (.bool true, H) := by
  obtain ⟨xs, rfl⟩ := argB h
  suffices hg : Gets (cv id_laws_FnSayLine [.sl false (vB xs)] []) fun r => r.1 = .bool true by
    obtain ⟨⟨v, H⟩, e, h⟩ := hg
    cases h
    exact ⟨H, e⟩
  rw [laws_FnSayLine_eq]
  simp only [evv, Nat.zero_add, if_true, if_false, decide_true, decide_false, Bool.false_eq_true, Bool.not_true, Bool.not_false, decide_eq_true_eq]
  refine Gets.ite (fun h => ?_) (fun h => ?_)
  · exact Gets.here rfl
  · refine (DrawSayLine_g xs).bind ?_
    rintro _ H1 ⟨_, s, line, rfl, ⟨x, y, z, rfl, hx, hy, hz⟩, hs, hl⟩
    have f1 := impl_SayLine_c s line hs (by omega) (by omega)
    have f2 := spec_SayLine_g s (.agg [.int .i64 s.state, .str s.host, .str s.draft.from_, x, y, z]) line H1 ⟨x, y, z, rfl, hx, hy, hz⟩ hs (by omega) (by omega)
    have hS : SzS 231 (sayS s line) := sayS_sz hs (by omega)
    have hv : sayB s line = true → sessT (sayS s line) = true := say_valid
    have hF : sayB s line = true → sayS s line = (sayF s line).1 ∧ sayN s line = (sayF s line).2 := fun hb => by
      unfold sayS sayN; rw [if_pos hb, if_pos hb]; exact ⟨rfl, rfl⟩
    have key1 : sayB s line = true → s.state ≠ 4 → 400 ≤ sayN s line → sayS s line = s := by
      intro hb h4 hc
      obtain ⟨e1, e2⟩ := hF hb
      have e3 : sayF s line = cmdF s line := by unfold sayF; rw [if_neg h4]
      rw [e1, e3]
      rw [e2, e3] at hc
      exact cmdF_refuse hc
    have key2 : sayB s line = true → s.done.length ≤ (sayS s line).done.length := fun hb => by
      rw [(hF hb).1]; exact (sayF_done s line).1
    have key3 : sayB s line = true → sayN s line = 0 ∨ replyText (sayN s line) ≠ [] := fun hb => by
      rw [(hF hb).2]; exact sayF_reply s line
    generalize sayS s line = t at *
    generalize sayN s line = c at *
    have m1 := impl_SessionSame_c t t (hS.sm (by omega))
    have m2 := impl_SessionSame_c t s (hS.sm (by omega))
    have v1 := impl_SessionValid_c t (hS.sm (by omega))
    have r1 := impl_ReplyText_c c
    simp only [cS_e, cSo_e] at f1 f2 m1 m2 v1
    simp only [evv, Nat.zero_add, if_true, if_false, decide_true, decide_false, Bool.false_eq_true, Bool.not_true, Bool.not_false, hx, hy, hz, f1]
    refine f2.bind ?_
    rintro _ H2 ⟨rfl, -⟩
    by_cases hb : sayB s line = true
    · have hvt := hv hb
      have kd := key2 hb
      have fin : ∀ (H : VH), Gets ((qc id_impl_SessionValid [.agg [.int .i64 t.state, .str t.host, .str t.draft.from_, .sl false (vT t.draft.to), .sl false (vT t.draft.lines), .sl false (vR eM t.done)]]).bind fun x79_172 =>
            ifGV x79_172 (
            (vLenVV (.sl false (vR eM t.done))).bind fun x83_176 =>
            (vLenVV (.sl false (vR eM s.done))).bind fun x86_179 =>
            (vBinV (.int .i64) .geq x83_176 x86_179).bind fun x87_180 =>
            ifGV x87_180 (
            (vBinV (.int .i64) .eql (.int .i64 c) (.int .i64 0)).bind fun x91_184 =>
            ifGV x91_184 (
            some ((.bool true), H)) (
            (qc id_impl_ReplyText [.int .i64 c]).bind fun x94_190 =>
            (vBinV .str .neq x94_190 (.str [])).bind fun x95_191 =>
            some (x95_191, H))) (
            some ((.bool false), H))) (
            some ((.bool false), H))) fun r : V × VH => r.1 = .bool true := by
        intro H
        rcases key3 hb with k | k
        · simp only [evv, Nat.zero_add, if_true, if_false, decide_true, decide_false, Bool.false_eq_true, Bool.not_true, Bool.not_false, v1, hvt, k, show ((t.done.length : Int) ≥ (s.done.length : Int)) from by omega]
          exact Gets.here rfl
        · by_cases k0 : c = 0
          · simp only [evv, Nat.zero_add, if_true, if_false, decide_true, decide_false, Bool.false_eq_true, Bool.not_true, Bool.not_false, v1, hvt, k0, show ((t.done.length : Int) ≥ (s.done.length : Int)) from by omega]
            exact Gets.here rfl
          · simp only [evv, Nat.zero_add, if_true, if_false, decide_true, decide_false, Bool.false_eq_true, Bool.not_true, Bool.not_false, v1, hvt, k0, r1, k, show ((t.done.length : Int) ≥ (s.done.length : Int)) from by omega]
            exact Gets.here rfl
      by_cases h1 : c ≥ 400
      · by_cases h4 : s.state = 4
        · have fin' := fin H2
          simp only [evv, Nat.zero_add, if_true, if_false, decide_true, decide_false, Bool.false_eq_true, Bool.not_true, Bool.not_false] at fin'
          rw [h4] at m2
          simp only [evv, Nat.zero_add, if_true, if_false, decide_true, decide_false, Bool.false_eq_true, Bool.not_true, Bool.not_false, hx, hy, hz, vO_strip, m1, hb, h1, h4]
          exact fin'
        · have e := key1 hb h4 h1
          subst e
          simp only [evv, Nat.zero_add, if_true, if_false, decide_true, decide_false, Bool.false_eq_true, Bool.not_true, Bool.not_false, hx, hy, hz, vO_strip, m1, v1, hvt, hb, h1, h4]
          exact Gets.here rfl
      · have fin' := fin H2
        simp only [evv, Nat.zero_add, if_true, if_false, decide_true, decide_false, Bool.false_eq_true, Bool.not_true, Bool.not_false] at fin'
        simp only [evv, Nat.zero_add, if_true, if_false, decide_true, decide_false, Bool.false_eq_true, Bool.not_true, Bool.not_false, hx, hy, hz, vO_strip, m1, hb, h1]
        exact fin'
    · simp only [evv, Nat.zero_add, if_true, if_false, decide_true, decide_false, Bool.false_eq_true, Bool.not_true, Bool.not_false, hx, hy, hz, vO_strip, m1, hb]
      exact Gets.here rfl


end Go.Proofs.YtjbekhailkednabGreatDoor.Q
