/- Contracts: the laws of mails that are taken. -/
import Derived.Test.YtikpckcdpmjpgaaGreatDoorTakeMailCa1takeZ
import Derived.Test.YtikpckcdpmjpgaaGreatDoorFnTakeMailK4
namespace Go.Proofs.YtikpckcdpmjpgaaGreatDoor.Q
open Go Go.AM
set_option linter.unusedSimpArgs false
set_option linter.unusedVariables false
set_option linter.unusedSectionVars false
theorem isP_uniq {l : List Box} {p : Bs} {i : Nat} (so : SortX l) (hi : i < l.length) (h : l[i].path = p) : l.findIdx (isP p) = i := by
  rw [List.findIdx_eq hi]
  refine ⟨by unfold isP; exact decide_eq_true h, fun j hj => ?_⟩
  unfold isP
  refine decide_eq_false fun e => ?_
  have := so j i hj hi
  rw [boxAt_get hi, boxAt_get (by omega), e, h] at this
  rw [show ltT p p = false from bl_irr p] at this
  cases this
theorem takeB_iff {l : List Box} {p : Bs} (h : takeB l p = true) : boxesT l = true ∧ l.any (isP p) = true ∧ ∃ hx : l.findIdx (isP p) < l.length, 0 < l[l.findIdx (isP p)].mails.length ∧ l[l.findIdx (isP p)].path = p ∧
    takeL l p = l.set (l.findIdx (isP p)) ⟨l[l.findIdx (isP p)].path, l[l.findIdx (isP p)].mails.drop 1⟩ ∧ takeM l p = l[l.findIdx (isP p)].mails.headD ⟨[], [], []⟩ := by
  have hB := h
  unfold takeB at h
  simp only [Bool.and_eq_true, Bool.not_eq_true', decide_eq_false_iff_not] at h
  have hx := findIdx_isP h.2.1
  have hat := boxAt_get hx
  refine ⟨h.1, h.2.1, hx, by have := h.2.2; rw [hat] at this; omega, ?_, by unfold takeL; rw [hB, hat]; rfl, by unfold takeM; rw [hB, hat]; rfl⟩
  have := List.findIdx_getElem (w := hx)
  unfold isP at this
  exact of_decide_eq_true this
theorem takeL_len {l : List Box} {p : Bs} (h : takeB l p = true) : (takeL l p).length = l.length := by
  obtain ⟨_, _, hx, _, _, hL, _⟩ := takeB_iff h
  rw [hL, List.length_set]
theorem takeL_valid {l : List Box} {p : Bs} (h : takeB l p = true) : boxesT (takeL l p) = true := by
  obtain ⟨hv, _, hx, _, _, hL, _⟩ := takeB_iff h
  have hlen := takeL_len h
  rw [boxes_iff] at hv ⊢
  refine ⟨by omega, fun b hb => ?_, fun i j hij hj => ?_⟩
  · rw [hL] at hb
    rcases List.mem_or_eq_of_mem_set hb with hb | rfl
    · exact hv.2.1 b hb
    · have q := hv.2.1 _ (List.getElem_mem hx)
      exact ⟨q.1, by have := q.2.1; simp; omega, fun m hm => q.2.2 m (List.mem_of_mem_drop hm)⟩
  · have hj' : j < l.length := by omega
    have q := hv.2.2 i j hij hj'
    have hp : ∀ k, (boxAt (takeL l p) k).path = (boxAt l k).path := fun k => by
      rw [hL, boxAt_set hx]
      by_cases e : k = l.findIdx (isP p)
      · rw [if_pos e, e, boxAt_get hx]
      · rw [if_neg e]
    rw [hp, hp]; exact q
theorem takeL_held {l : List Box} {p : Bs} (h : takeB l p = true) : heldN (takeL l p) + 1 = heldN l := by
  obtain ⟨hv, _, hx, hm, _, hL, _⟩ := takeB_iff h
  have := heldN_set (b := ⟨l[l.findIdx (isP p)].path, l[l.findIdx (isP p)].mails.drop 1⟩) hx
  rw [hL]
  simp only [List.length_drop] at this
  omega
theorem takeL_cheld {l : List Box} {p : Bs} (h : takeB l p = true) : cheldN (takeL l p) + 1 = cheldN l := by
  unfold cheldN
  rw [takeL_valid h, (takeB_iff h).1]
  exact takeL_held h
theorem takeL_at {l : List Box} {p : Bs} (h : takeB l p = true) {i : Nat} (hi : i < l.length) (hp : l[i].path = p) : ∃ (hi' : i < (takeL l p).length) (h0 : 0 < l[i].mails.length), (takeL l p)[i].mails.length + 1 = l[i].mails.length ∧ l[i].mails[0] = takeM l p := by
  obtain ⟨hv, _, hx, hm, _, hL, hM⟩ := takeB_iff h
  have hu := isP_uniq (sort_of hv) hi hp
  subst hu
  refine ⟨by rw [takeL_len h]; exact hi, hm, ?_, by rw [hM, headD_get hm]⟩
  have : (takeL l p)[l.findIdx (isP p)]? = some ⟨l[l.findIdx (isP p)].path, l[l.findIdx (isP p)].mails.drop 1⟩ := by rw [hL, List.getElem?_set_self hx]
  rw [List.getElem?_eq_getElem (by rw [takeL_len h]; exact hi)] at this
  have := Option.some.inj this
  rw [this]
  simp only [List.length_drop]
  omega
theorem cheldN_le {l : List Box} (h : SmXs l) (hl : l.length ≤ 1000000) : cheldN l ≤ 1099511627776 := by
  have := heldN_le h l.length
  rw [List.take_length] at this
  unfold cheldN
  split
  · have : l.length * 1048576 ≤ 1000000 * 1048576 := Nat.mul_le_mul_right _ hl
    omega
  · omega
theorem DrawTakeMail_p (xs : Bs) : ∃ o r l p, pc id_spec_DrawTakeMail [.sl false (vB xs)] = some (.tup [.sl o r, .str p]) ∧ RoX r l ∧ DX 102 l ∧ p.length ≤ 200 := by
  suffices hg : Gets2 (cv id_spec_DrawTakeMail [.sl false (vB xs)] []) (fun v H => ∃ l p w, v = .tup [w, .str p] ∧ VX w 0 H l ∧ DX 102 l ∧ p.length ≤ 200) by
    obtain ⟨v, H, e, l, p, w, rfl, hw, hl, hp⟩ := hg
    obtain ⟨o, r, e2, hr⟩ := pc_tupY e (by simp only [evv, Nat.zero_add, if_true, if_false, decide_true, decide_false, Bool.false_eq_true, Bool.not_true, Bool.not_false]) rfl rfl hw
    exact ⟨o, r, l, p, e2, hr, hl, hp⟩
  refine Gets2.of ?_
  rw [spec_DrawTakeMail_eq]
  refine (Open_g (xs := xs)).bind ?_
  rintro _ H0 ⟨rfl, R0⟩
  simp only [evv, Nat.zero_add, if_true, if_false, decide_true, decide_false, Bool.false_eq_true, Bool.not_true, Bool.not_false]
  refine (l11Draw_g R0 (by omega)).bind ?_
  rintro _ H1 ⟨a, rfl, ha, R1⟩
  simp only [evv, Nat.zero_add, if_true, if_false, decide_true, decide_false, Bool.false_eq_true, Bool.not_true, Bool.not_false, vOX_strip]
  refine (l11Wrong_g R1 (by omega) (VX.row a _ _) ha (by omega)).bind ?_
  rintro w H2 ⟨l, hw, hl, R2⟩
  simp only [evv, Nat.zero_add, if_true, if_false, decide_true, decide_false, Bool.false_eq_true, Bool.not_true, Bool.not_false]
  refine (of_f (Rf.refl R2) (by omega) (by decide)).bind ?_
  rintro _ H3 ⟨p, rfl, -, hp, R3⟩
  simp only [evv, Nat.zero_add, if_true, if_false, decide_true, decide_false, Bool.false_eq_true, Bool.not_true, Bool.not_false]
  exact Gets.here ⟨l, p, w, rfl, hw.fr R3, hl.le (by omega), hp⟩
theorem FnTakeMail_v (u : V) (h : HasArg (.sl (.int .u8)) u) : ∃ H, cv id_laws_FnTakeMail [u] [] = some (.bool true, H) := by
  obtain ⟨xs, rfl⟩ := argB h
  suffices hg : Gets (cv id_laws_FnTakeMail [.sl false (vB xs)] []) fun r => r.1 = .bool true by
    obtain ⟨⟨v, H⟩, e, h⟩ := hg
    cases h
    exact ⟨H, e⟩
  obtain ⟨o, r, l, p, e1, hr, hl, hp⟩ := DrawTakeMail_p xs
  have sl := hl.sm (by omega)
  obtain ⟨o2, r2, hr2, e2⟩ := impl_TakeMail_p l p sl
  have e3 := spec_TakeMail_c l p sl
  have sL := takeL_sm (p := p) sl
  have sM := takeM_sm (p := p) sl
  have m1 := impl_BoxesSame_c (takeL l p) (takeL l p) sL
  rw [decide_eq_true rfl] at m1
  have m2 := impl_MailSame_c (takeM l p) (takeM l p) sM
  rw [decide_eq_true rfl] at m2
  simp only [cM_e] at m2
  rw [laws_FnTakeMail_eq]
  simp only [evv, Nat.zero_add, if_true, if_false, decide_true, decide_false, Bool.false_eq_true, Bool.not_true, Bool.not_false, decide_eq_true_eq]
  refine Gets.ite (fun h => ?_) (fun h => ?_)
  · exact Gets.here rfl
  · by_cases hB : takeB l p = true
    · have v1 := impl_BoxesValid_c (takeL l p) sL
      rw [takeL_valid hB] at v1
      have v2 := impl_CountHeld_c (takeL l p) sL
      have v3 := impl_CountHeld_c l sl
      have hc := takeL_cheld hB
      have hcl := cheldN_le sl (by have := hl.1; omega)
      have v4 : vBinV (.int .i64) .sub (.int .i64 (cheldN l : Nat)) (.int .i64 1) = some (.int .i64 ((cheldN l - 1 : Nat) : Int)) := n_subN _ _ 1 (by omega) (by omega)
      have v5 : cheldN (takeL l p) = cheldN l - 1 := by omega
      rw [v5] at v2
      have hat := fun i (hi : i < l.length) hp => takeL_at hB (i := i) hi hp
      have hlen := takeL_len hB
      have hb1 : ∀ b ∈ l, b.mails.length ≤ 1000000 := fun b hb => by have := (hl.2 b hb).2.1; omega
      generalize takeL l p = L at *
      generalize takeM l p = M at *
      have h1 := hr2.1
      simp only [evv, Nat.zero_add, if_true, if_false, decide_true, decide_false, Bool.false_eq_true, Bool.not_true, Bool.not_false, cO_e, e1, hr.1, e2, h1, e3, m1, m2, hB, vOX_strip, vT_strip]
      refine Gets.loop2 (I := fun n st H => ∃ i : Nat, n = l.length - i ∧ i ≤ l.length ∧ st = [.sl false (vR eX l), .str p, .sl false (vR eX L), .int .i64 (i : Nat), .str M.from_, .sl false (vT M.to), .sl false (vT M.lines)])
        (P := fun q vs H => q = 0 ∧ vs = [.sl false (vR eX l), .sl false (vR eX L)]) (n := l.length) ?_ ⟨0, by omega, by omega, rfl⟩ ?_
      · rintro n st H ⟨i, rfl, hi, rfl⟩
        rw [laws_FnTakeMail_l9_eq]
        by_cases hlt : i < l.length
        · have i1 := vX_idx false l .i64 i hlt
          rw [eX_e] at i1
          have e5 : vBinV (.int .i64) .add (.int .i64 (i : Int)) (.int .i64 1) = some (.int .i64 ((i + 1 : Nat) : Int)) := n_addN _ i 1 (by have := hl.1; omega)
          have go : ∀ G : VH, ∃ s, (some (none, [.sl false (vR eX l), .str p, .sl false (vR eX L), .int .i64 ((i + 1 : Nat) : Int), .str M.from_, .sl false (vT M.to), .sl false (vT M.lines)], G) : Option (Option Nat × List V × VH)) = some s ∧ ((∃ m, s.1 = some m ∧ m = 0 ∧ s.2.1 = [.sl false (vR eX l), .sl false (vR eX L)]) ∨ (s.1 = none ∧ ∃ n', n' < l.length - i ∧ ∃ i : Nat, n' = l.length - i ∧ i ≤ l.length ∧ s.2.1 = [.sl false (vR eX l), .str p, .sl false (vR eX L), .int .i64 (i : Nat), .str M.from_, .sl false (vT M.to), .sl false (vT M.lines)])) :=
            fun G => ⟨_, rfl, .inr ⟨rfl, l.length - (i + 1), by omega, i + 1, rfl, by omega, rfl⟩⟩
          by_cases hp : l[i].path = p
          · obtain ⟨hi', h0, hm1, hm2⟩ := hat i hlt hp
            have i2 := vX_idx false L .i64 i hi'
            rw [eX_e] at i2
            have i3 : vIdxV 3 (.sl false (vR eM l[i].mails)) (.int .i64 0) = some (.elt (eM.e l[i].mails[0]) 0) := vM_idx false l[i].mails .i64 0 h0
            rw [hm2, eM_e] at i3
            have hbl := hb1 _ (List.getElem_mem hlt)
            have e6 : vBinV (.int .i64) .sub (.int .i64 (l[i].mails.length : Int)) (.int .i64 1) = some (.int .i64 ((l[i].mails.length - 1 : Nat) : Int)) := n_subN _ _ 1 (by omega) (by omega)
            have e7 : ((L[i].mails.length : Nat) : Int) = ((l[i].mails.length - 1 : Nat) : Int) := by omega
            simp only [evv, Nat.zero_add, if_true, if_false, decide_true, decide_false, Bool.false_eq_true, Bool.not_true, Bool.not_false, i1, i2, i3, hp, e5, e6, e7, m2, vT_strip, show ((i : Int) < (l.length : Int)) from by omega]
            first | exact go H | (simp; exact go H) | skip
          · simp only [evv, Nat.zero_add, if_true, if_false, decide_true, decide_false, Bool.false_eq_true, Bool.not_true, Bool.not_false, i1, hp, e5, show ((i : Int) < (l.length : Int)) from by omega]
            first | exact go H | (simp; exact go H) | skip
        · simp only [evv, Nat.zero_add, if_true, if_false, decide_true, decide_false, Bool.false_eq_true, Bool.not_true, Bool.not_false, show ¬ ((i : Int) < (l.length : Int)) from by omega]
          exact ⟨_, rfl, .inl ⟨0, rfl, rfl, rfl⟩⟩
      · rintro _ _ H ⟨rfl, rfl⟩
        simp only [evv, Nat.zero_add, if_true, if_false, decide_true, decide_false, Bool.false_eq_true, Bool.not_true, Bool.not_false, v1, v2, v3, v4]
        exact Gets.here rfl
    · have hB' : takeB l p = false := by simpa using hB
      generalize takeL l p = L at *
      generalize takeM l p = M at *
      have h1 := hr2.1
      simp only [evv, Nat.zero_add, if_true, if_false, decide_true, decide_false, Bool.false_eq_true, Bool.not_true, Bool.not_false, cO_e, e1, hr.1, e2, h1, e3, m1, m2, hB', vOX_strip, vT_strip]
      exact Gets.here rfl
end Go.Proofs.YtikpckcdpmjpgaaGreatDoor.Q
