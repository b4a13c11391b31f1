/- Laws of a dialogue: lines of a message; letters do not matter; refusals change nothing. -/
import Derived.Test.YtjbekhailkednaaGreatDoorSayCapitalC76saylawZ
namespace Go.Proofs.YtjbekhailkednaaGreatDoor.Q
open Go Go.AM
set_option linter.unusedSimpArgs false
set_option linter.unusedVariables false
theorem lowB_iff {b c : UInt8} (h1 : ¬ (65 ≤ c.toNat ∧ c.toNat ≤ 90)) (h2 : ¬ (97 ≤ c.toNat ∧ c.toNat ≤ 122)) : lowB b = c ↔ b = c := by
  by_cases h : 65 ≤ (b.toNat : Int) ∧ (b.toNat : Int) ≤ 90
  · have e := lowB_nat h.1 h.2
    constructor
    · intro hc; rw [hc] at e; omega
    · intro hc; subst hc; omega
  · rw [lowB_no h]
theorem lowB_low (b : UInt8) : lowB (lowB b) = lowB b := by
  by_cases h : 65 ≤ (b.toNat : Int) ∧ (b.toNat : Int) ≤ 90
  · have e := lowB_nat h.1 h.2
    rw [lowB_no (b := lowB b) (by omega)]
  · rw [lowB_no h, lowB_no h]
theorem lowT_low (s : Bs) : lowT (lowT s) = lowT s := by
  unfold lowT
  rw [List.map_map]
  exact List.map_congr_left fun b _ => lowB_low b
theorem wr_low (b : UInt8) : wrB (lowB b).toNat = wrB b.toNat := by
  by_cases h : 65 ≤ (b.toNat : Int) ∧ (b.toNat : Int) ≤ 90
  · have e := lowB_nat h.1 h.2
    unfold wrB
    exact decide_eq_decide.2 (by omega)
  · rw [lowB_no h]
theorem atom_low (b : UInt8) : atomB (lowB b).toNat = atomB b.toNat := by
  by_cases h : 65 ≤ (b.toNat : Int) ∧ (b.toNat : Int) ≤ 90
  · have e := lowB_nat h.1 h.2
    unfold atomB
    exact decide_eq_decide.2 (by omega)
  · rw [lowB_no h]
theorem any_low (p : Int → Bool) (hp : ∀ b : UInt8, p (lowB b).toNat = p b.toNat) (s : Bs) : ((lowT s).any fun b => p b.toNat) = s.any fun b => p b.toNat := by
  unfold lowT
  rw [List.any_map]
  congr 1
  funext b
  exact hp b
theorem all_low (p : Int → Bool) (hp : ∀ b : UInt8, p (lowB b).toNat = p b.toNat) (s : Bs) : ((lowT s).all fun b => p b.toNat) = s.all fun b => p b.toNat := by
  unfold lowT
  rw [List.all_map]
  congr 1
  funext b
  exact hp b
theorem text_low (s : Bs) : textT (lowT s) = textT s := by
  unfold textT
  rw [any_low wrB wr_low]
  simp [lowT]
theorem atomT_low (s : Bs) : atomT (lowT s) = atomT s := by
  unfold atomT
  rw [all_low atomB atom_low]
  simp [lowT]
theorem split_low : ∀ s : Bs, splitB 46 (lowT s) = (splitB 46 s).map lowT
  | [] => rfl
  | b :: s => by
    have ih := split_low s
    have hb : lowB b = 46 ↔ b = 46 := lowB_iff (by decide) (by decide)
    show splitB 46 (lowB b :: lowT s) = _
    by_cases h : b = 46
    · subst h
      simp only [splitB, show lowB 46 = 46 from rfl, ih]
      simp [lowT]
    · have h' : ¬ lowB b = 46 := fun e => h (hb.1 e)
      obtain ⟨t, l, ht⟩ := List.exists_cons_of_ne_nil (splitB_ne 46 s)
      rw [ht] at ih
      simp only [splitB, h, h', ih, ht]
      simp [lowT]
theorem loc_low (s : Bs) : locT (lowT s) = locT s := by
  unfold locT
  rw [split_low, List.any_map]
  have : ((fun t => !atomT t) ∘ lowT) = fun t => !atomT t := by funext t; simp [Function.comp, atomT_low]
  rw [this]
  simp [lowT]
theorem idx_low {c : UInt8} (hc : ∀ b, lowB b = c ↔ b = c) : ∀ s : Bs, (lowT s).idxOf c = s.idxOf c
  | [] => rfl
  | b :: s => by
    have ih := idx_low hc s
    show (lowB b :: lowT s).idxOf c = _
    rw [List.idxOf_cons, List.idxOf_cons, ih]
    by_cases h : b = c
    · rw [show (lowB b == c) = true from by simpa using (hc b).2 h, show (b == c) = true from by simpa using h]
    · rw [show (lowB b == c) = false from by simpa using fun e => h ((hc b).1 e), show (b == c) = false from by simpa using h]
theorem mem_low {c : UInt8} (hc : ∀ b, lowB b = c ↔ b = c) (s : Bs) : c ∈ lowT s ↔ c ∈ s := by
  unfold lowT
  rw [List.mem_map]
  constructor
  · rintro ⟨b, h1, h2⟩; rw [(hc b).1 h2] at h1; exact h1
  · intro h; exact ⟨c, h, (hc c).2 rfl⟩
theorem cut_low {c : UInt8} (hc : ∀ b, lowB b = c ↔ b = c) (s : Bs) : cutA c (lowT s) = lowT (cutA c s) ∧ cutZ c (lowT s) = lowT (cutZ c s) := by
  unfold cutA cutZ
  rw [idx_low hc]
  by_cases h : c ∈ s
  · rw [if_pos h, if_pos h, if_pos ((mem_low hc s).2 h), if_pos ((mem_low hc s).2 h)]
    unfold lowT
    rw [List.map_take, List.map_drop]
    exact ⟨rfl, rfl⟩
  · rw [if_neg h, if_neg h, if_neg (fun e => h ((mem_low hc s).1 e)), if_neg (fun e => h ((mem_low hc s).1 e))]
    exact ⟨rfl, rfl⟩
theorem c64 : ∀ b : UInt8, lowB b = 64 ↔ b = 64 := fun b => lowB_iff (by decide) (by decide)
theorem c32 : ∀ b : UInt8, lowB b = 32 ↔ b = 32 := fun b => lowB_iff (by decide) (by decide)
theorem okP_low (p : Bs) : okP (lowT p) = (okP p).map lowT := by
  have hcut := cut_low c64 p
  have hf : fromT (pathF (lowT p)) = fromT (pathF p) ∧ pathF (lowT p) = lowT (pathF p) := by
    unfold pathF
    by_cases h : (64 : UInt8) ∈ p
    · rw [if_pos h, if_pos ((mem_low c64 p).2 h), hcut.1, hcut.2, lowT_low]
      refine ⟨?_, ?_⟩
      · rw [fromT_path (by rw [← hcut.1]; exact cutA_not), fromT_path cutA_not, loc_low]
      · unfold lowT
        rw [List.map_append, List.map_append]
        have e : (cutZ 64 p).map lowB = ((cutZ 64 p).map lowB).map lowB := (lowT_low (cutZ 64 p)).symm
        rw [← e]; rfl
    · rw [if_neg h, if_neg (fun e => h ((mem_low c64 p).1 e))]
      refine ⟨?_, rfl⟩
      unfold fromT pathT
      rw [decide_eq_false (fun e => h ((mem_low c64 p).1 e)), decide_eq_false h]
      have : (lowT p = []) ↔ (p = []) := by unfold lowT; exact List.map_eq_nil_iff
      simp only [this, Bool.false_and]
  unfold okP
  rw [hf.1, hf.2]
  split <;> rfl
theorem innP_low (q : Bs) : innP (lowT q) = (innP q).map lowT := by
  have h60 : ∀ b : UInt8, lowB b = 60 ↔ b = 60 := fun b => lowB_iff (by decide) (by decide)
  have h62 : ∀ b : UInt8, lowB b = 62 ↔ b = 62 := fun b => lowB_iff (by decide) (by decide)
  have e1 : ((lowT q).head? = some 60) ↔ (q.head? = some 60) := by
    unfold lowT
    rw [List.head?_map]
    cases q.head? with
    | none => simp
    | some b => simp [h60]
  have e2 : ((lowT q).getLast? = some 62) ↔ (q.getLast? = some 62) := by
    unfold lowT
    rw [List.getLast?_map]
    cases q.getLast? with
    | none => simp
    | some b => simp [h62]
  have e3 : (lowT q).length = q.length := by simp [lowT]
  unfold innP
  rw [e3]
  simp only [e1, e2]
  split
  · simp only [Option.map_some]
    unfold lowT
    rw [List.map_take, List.map_drop]
  · rfl
theorem argP_low (w r : Bs) : argP w (lowT r) = (argP w r).map lowT := by
  have e3 : (lowT r).length = r.length := by simp [lowT]
  have e1 : lowT ((lowT r).take w.length) = lowT (r.take w.length) := by
    have : (lowT r).take w.length = lowT (r.take w.length) := by unfold lowT; rw [List.map_take]
    rw [this, lowT_low]
  have e2 : (lowT r).drop w.length = lowT (r.drop w.length) := by unfold lowT; rw [List.map_drop]
  unfold argP
  rw [e3, e1, e2, innP_low]
  split
  · cases innP (r.drop w.length) with
    | none => rfl
    | some q => exact okP_low q
  · rfl
theorem cmd_low (s : Session) (line : Bs) : (cmdF s (lowT line)).2 = (cmdF s line).2 ∧ (cmdF s (lowT line)).1.state = (cmdF s line).1.state := by
  have hc := cut_low c32 line
  unfold cmdF
  rw [hc.1, hc.2, lowT_low, lowT_low, lowT_low, argP_low, argP_low]
  split
  · exact ⟨rfl, rfl⟩
  · split
    · cases argP [102, 114, 111, 109, 58] (cutZ 32 line) with
      | none => exact ⟨rfl, rfl⟩
      | some p =>
        unfold fromF
        simp only [Option.map_some]
        split <;> exact ⟨rfl, rfl⟩
    · split
      · cases argP [116, 111, 58] (cutZ 32 line) with
        | none => exact ⟨rfl, rfl⟩
        | some p =>
          unfold toF
          have : (lowT p = []) ↔ (p = []) := by unfold lowT; exact List.map_eq_nil_iff
          simp only [Option.map_some, this]
          split
          · exact ⟨rfl, rfl⟩
          · split
            · split <;> exact ⟨rfl, rfl⟩
            · exact ⟨rfl, rfl⟩
      · exact ⟨rfl, rfl⟩
theorem FnSayCapital_v (u : V) (h : HasArg (.sl (.int .u8)) u) : ∃ H, cv id_laws_FnSayCapital [u] [] = some (.bool true, H) := by
  obtain ⟨xs, rfl⟩ := argB h
  suffices hg : Gets (cv id_laws_FnSayCapital [.sl false (vB xs)] []) fun r => r.1 = .bool true by
    obtain ⟨⟨v, H⟩, e, h⟩ := hg
    cases h
    exact ⟨H, e⟩
  rw [laws_FnSayCapital_eq]
  simp only [evv, Nat.zero_add, if_true, if_false, decide_true, decide_false, Bool.false_eq_true, Bool.not_true, Bool.not_false, decide_eq_true_eq]
  refine Gets.ite (fun h => ?_) (fun h => ?_)
  · exact Gets.here rfl
  · refine (DrawSayLine_g xs).bind ?_
    rintro _ H1 ⟨_, s, line, rfl, ⟨x, y, z, rfl, hx, hy, hz⟩, hs, hl⟩
    have f1 := impl_SayLine_c s line hs (by omega) (by omega)
    have f2 := spec_SayLine_g s (.agg [.int .i64 s.state, .str s.host, .str s.draft.from_, x, y, z]) line H1 ⟨x, y, z, rfl, hx, hy, hz⟩ hs (by omega) (by omega)
    have f3 := impl_SayLine_c s (lowT line) hs (by omega) (by simp [lowT]; omega)
    have lo := impl_LowerText_c line (by omega)
    have hS : SzS 231 (sayS s line) := sayS_sz hs (by omega)
    have key : sayB s line = true → s.state ≠ 4 → sayB s (lowT line) = true ∧ sayN s (lowT line) = sayN s line ∧ (sayS s (lowT line)).state = (sayS s line).state := by
      intro hb h4
      have hb' : sayB s (lowT line) = true := by
        unfold sayB at hb ⊢
        rw [text_low]; exact hb
      have hF : ∀ l, sayF s l = cmdF s l := fun l => by unfold sayF; rw [if_neg h4]
      unfold sayS sayN
      rw [if_pos hb, if_pos hb, if_pos hb', if_pos hb', hF, hF]
      exact ⟨hb', (cmd_low s line).1, (cmd_low s line).2⟩
    generalize sayS s line = t at *
    generalize sayN s line = c at *
    have m1 := impl_SessionSame_c t t (hS.sm (by omega))
    simp only [cS_e, cSo_e] at f1 f2 f3 m1
    simp only [evv, Nat.zero_add, if_true, if_false, decide_true, decide_false, Bool.false_eq_true, Bool.not_true, Bool.not_false, hx, hy, hz, f1]
    refine f2.bind ?_
    rintro _ H2 ⟨rfl, -⟩
    by_cases hb : sayB s line = true
    · by_cases h4 : s.state = 4
      · rw [h4] at f3
        simp only [evv, Nat.zero_add, if_true, if_false, decide_true, decide_false, Bool.false_eq_true, Bool.not_true, Bool.not_false, hx, hy, hz, vO_strip, m1, hb, h4]
        exact Gets.here rfl
      · obtain ⟨k1, k2, k3⟩ := key hb h4
        rw [k1, k2] at f3
        generalize hq : sayS s (lowT line) = q at *
        have s1 : stO (.ptr H2.length 0) [.int .i64 q.state, .str q.host, .str q.draft.from_, .sl true (vT q.draft.to), .sl true (vT q.draft.lines), .sl true (vO q.done)] (H2 ++ [[(.int .i64 0), (.str []), (.str []), (.sl true []), (.sl true []), (.sl true [])]]) = some (H2 ++ [cSo q]) := by
          have e := st_all (get_last H2 [(.int .i64 0), (.str []), (.str []), (.sl true []), (.sl true []), (.sl true [])]) (c := cSo q) rfl
          rw [set_end] at e
          exact e
        have l1 : ldO globB false false 1 (.ptr H2.length 0) (H2 ++ [cSo q]) = some (.int .i64 q.state, H2 ++ [cSo q]) := lp_cell (get_last H2 _) rfl rfl
        rw [k3] at s1 l1 f3
        simp only [evv, Nat.zero_add, if_true, if_false, decide_true, decide_false, Bool.false_eq_true, Bool.not_true, Bool.not_false, hx, hy, hz, vO_strip, m1, hb, h4, lo, f3, s1, l1]
        exact Gets.here rfl
    · simp only [evv, Nat.zero_add, if_true, if_false, decide_true, decide_false, Bool.false_eq_true, Bool.not_true, Bool.not_false, hx, hy, hz, vO_strip, m1, hb]
      exact Gets.here rfl

end Go.Proofs.YtjbekhailkednaaGreatDoor.Q
