/- Contracts: the laws of mails that are taken. -/
import Derived.Test.YtikpckcdpmjpgaaDoorCountHeldCa1takeZ
import Derived.Test.YtikpckcdpmjpgaaDoorFnCountHeldK4
namespace Go.Proofs.YtikpckcdpmjpgaaDoor.Q
open Go Go.AM
set_option linter.unusedSimpArgs false
set_option linter.unusedVariables false
set_option linter.unusedSectionVars false
theorem isP_uniq {l : List Box} {p : Bs} {i : Nat} (so : SortX l) (hi : i < l.length) (h : l[i].path = p) : l.findIdx (isP p) = i := by
  rw [List.findIdx_eq hi]
  refine ⟨by unfold isP; exact decide_eq_true h, fun j hj => ?_⟩
  unfold isP
  refine decide_eq_false fun e => ?_
  have := so j i hj hi
  rw [boxAt_get hi, boxAt_get (by omega), e, h] at this
  rw [show ltT p p = false from bl_irr p] at this
  cases this
theorem takeB_iff {l : List Box} {p : Bs} (h : takeB l p = true) : boxesT l = true ∧ l.any (isP p) = true ∧ ∃ hx : l.findIdx (isP p) < l.length, 0 < l[l.findIdx (isP p)].mails.length ∧ l[l.findIdx (isP p)].path = p ∧
    takeL l p = l.set (l.findIdx (isP p)) ⟨l[l.findIdx (isP p)].path, l[l.findIdx (isP p)].mails.drop 1⟩ ∧ takeM l p = l[l.findIdx (isP p)].mails.headD ⟨[], [], []⟩ := by
  have hB := h
  unfold takeB at h
  simp only [Bool.and_eq_true, Bool.not_eq_true', decide_eq_false_iff_not] at h
  have hx := findIdx_isP h.2.1
  have hat := boxAt_get hx
  refine ⟨h.1, h.2.1, hx, by have := h.2.2; rw [hat] at this; omega, ?_, by unfold takeL; rw [hB, hat]; rfl, by unfold takeM; rw [hB, hat]; rfl⟩
  have := List.findIdx_getElem (w := hx)
  unfold isP at this
  exact of_decide_eq_true this
theorem takeL_len {l : List Box} {p : Bs} (h : takeB l p = true) : (takeL l p).length = l.length := by
  obtain ⟨_, _, hx, _, _, hL, _⟩ := takeB_iff h
  rw [hL, List.length_set]
theorem takeL_valid {l : List Box} {p : Bs} (h : takeB l p = true) : boxesT (takeL l p) = true := by
  obtain ⟨hv, _, hx, _, _, hL, _⟩ := takeB_iff h
  have hlen := takeL_len h
  rw [boxes_iff] at hv ⊢
  refine ⟨by omega, fun b hb => ?_, fun i j hij hj => ?_⟩
  · rw [hL] at hb
    rcases List.mem_or_eq_of_mem_set hb with hb | rfl
    · exact hv.2.1 b hb
    · have q := hv.2.1 _ (List.getElem_mem hx)
      exact ⟨q.1, by have := q.2.1; simp; omega, fun m hm => q.2.2 m (List.mem_of_mem_drop hm)⟩
  · have hj' : j < l.length := by omega
    have q := hv.2.2 i j hij hj'
    have hp : ∀ k, (boxAt (takeL l p) k).path = (boxAt l k).path := fun k => by
      rw [hL, boxAt_set hx]
      by_cases e : k = l.findIdx (isP p)
      · rw [if_pos e, e, boxAt_get hx]
      · rw [if_neg e]
    rw [hp, hp]; exact q
theorem takeL_held {l : List Box} {p : Bs} (h : takeB l p = true) : heldN (takeL l p) + 1 = heldN l := by
  obtain ⟨hv, _, hx, hm, _, hL, _⟩ := takeB_iff h
  have := heldN_set (b := ⟨l[l.findIdx (isP p)].path, l[l.findIdx (isP p)].mails.drop 1⟩) hx
  rw [hL]
  simp only [List.length_drop] at this
  omega
theorem takeL_at {l : List Box} {p : Bs} (h : takeB l p = true) {i : Nat} (hi : i < l.length) (hp : l[i].path = p) : ∃ (hi' : i < (takeL l p).length) (h0 : 0 < l[i].mails.length), (takeL l p)[i].mails.length + 1 = l[i].mails.length ∧ l[i].mails[0] = takeM l p := by
  obtain ⟨hv, _, hx, hm, _, hL, hM⟩ := takeB_iff h
  have hu := isP_uniq (sort_of hv) hi hp
  subst hu
  refine ⟨by rw [takeL_len h]; exact hi, hm, ?_, by rw [hM, headD_get hm]⟩
  have : (takeL l p)[l.findIdx (isP p)]? = some ⟨l[l.findIdx (isP p)].path, l[l.findIdx (isP p)].mails.drop 1⟩ := by rw [hL, List.getElem?_set_self hx]
  rw [List.getElem?_eq_getElem (by rw [takeL_len h]; exact hi)] at this
  have := Option.some.inj this
  rw [this]
  simp only [List.length_drop]
  omega
theorem cheldN_le {l : List Box} (h : SmXs l) (hl : l.length ≤ 1000000) : cheldN l ≤ 1099511627776 := by
  have := heldN_le h l.length
  rw [List.take_length] at this
  unfold cheldN
  split
  · have : l.length * 1048576 ≤ 1000000 * 1048576 := Nat.mul_le_mul_right _ hl
    omega
  · omega
theorem DrawCountHeld_p (xs : Bs) : ∃ o r l, pc id_spec_DrawCountHeld [.sl false (vB xs)] = some (.sl o r) ∧ RoX r l ∧ DX 102 l := by
  suffices hg : Gets2 (cv id_spec_DrawCountHeld [.sl false (vB xs)] []) (fun v H => ∃ l, VX v 0 H l ∧ DX 102 l) by
    obtain ⟨v, H, e, l, hv, hl⟩ := hg
    rcases unobs_VX hv with ⟨o, r, rfl, hr⟩ | ⟨h1, -, h2⟩
    · exact ⟨o, r, l, pc_of e (by simp only [evv, Nat.zero_add, if_true, if_false, decide_true, decide_false, Bool.false_eq_true, Bool.not_true, Bool.not_false]) (by simp only [data, hr.2.1]), hr, hl⟩
    · exact ⟨false, _, l, pc_un e (by simp only [evv, Nat.zero_add, if_true, if_false, decide_true, decide_false, Bool.false_eq_true, Bool.not_true, Bool.not_false]) h1 h2 (by simp only [data, vR_data]), ⟨vR_strip _ _, vR_data _ _, vR_esz _ _⟩, hl⟩
  refine Gets2.of ?_
  rw [spec_DrawCountHeld_eq]
  refine (Open_g (xs := xs)).bind ?_
  rintro _ H0 ⟨rfl, R0⟩
  simp only [evv, Nat.zero_add, if_true, if_false, decide_true, decide_false, Bool.false_eq_true, Bool.not_true, Bool.not_false]
  refine (l11Draw_g R0 (by omega)).bind ?_
  rintro _ H1 ⟨a, rfl, ha, R1⟩
  simp only [evv, Nat.zero_add, if_true, if_false, decide_true, decide_false, Bool.false_eq_true, Bool.not_true, Bool.not_false, vOX_strip]
  refine (l11Wrong_g R1 (by omega) (VX.row a _ _) ha (by omega)).bind ?_
  rintro w H2 ⟨l, hw, hl, R2⟩
  simp only [evv, Nat.zero_add, if_true, if_false, decide_true, decide_false, Bool.false_eq_true, Bool.not_true, Bool.not_false]
  exact Gets.here ⟨l, hw, hl.le (by omega)⟩
theorem heldN_zero : ∀ {l : List Box}, (∀ i (h : i < l.length), l[i].mails.length = 0) → heldN l = 0
  | [], _ => rfl
  | b :: l, h => by
    have h0 := h 0 (by simp)
    have ih := heldN_zero (l := l) fun i hi => h (i + 1) (by simpa using hi)
    simp only [heldN, List.map_cons, List.sum_cons] at ih ⊢
    simp at h0
    rw [ih, h0]; rfl
def Emp (l0 l : List Box) (i : Nat) : Prop := boxesT l = true ∧ SmXs l ∧ l.length = l0.length ∧ heldN l ≤ 1099511627776 ∧ ∀ j (h : j < l.length), j < i → l[j].mails.length = 0
theorem Emp.take {l0 l : List Box} {i : Nat} (h : Emp l0 l i) (hi : i < l.length) (h0 : 0 < l[i].mails.length) :
    takeB l l[i].path = true ∧ Emp l0 (takeL l l[i].path) i ∧ heldN (takeL l l[i].path) + 1 = heldN l ∧ ∃ hi' : i < (takeL l l[i].path).length, (takeL l l[i].path)[i].mails.length + 1 = l[i].mails.length := by
  obtain ⟨hv, hs, hl, hn, he⟩ := h
  have hu := isP_uniq (sort_of hv) hi rfl
  have hB : takeB l l[i].path = true := by
    unfold takeB
    rw [hu, boxAt_get hi, hv]
    have : l.any (isP l[i].path) = true := List.any_eq_true.2 ⟨_, List.getElem_mem hi, decide_eq_true rfl⟩
    rw [this, decide_eq_false (by omega)]; rfl
  obtain ⟨hi', _, h2, _⟩ := takeL_at hB hi rfl
  have hlen := takeL_len hB
  have hheld := takeL_held hB
  refine ⟨hB, ⟨takeL_valid hB, takeL_sm hs, by omega, by omega, fun j hj hji => ?_⟩, hheld, hi', h2⟩
  obtain ⟨_, _, hx, _, _, hL, _⟩ := takeB_iff hB
  have hj2 : j < l.length := by omega
  have : (takeL l l[i].path)[j]? = some l[j] := by rw [hL, List.getElem?_set_ne (by rw [hu]; omega), List.getElem?_eq_getElem hj2]
  rw [List.getElem?_eq_getElem hj] at this
  rw [Option.some.inj this]
  exact he j hj2 hji
theorem FnCountHeld_v (u : V) (h : HasArg (.sl (.int .u8)) u) : ∃ H, cv id_laws_FnCountHeld [u] [] = some (.bool true, H) := by
  obtain ⟨xs, rfl⟩ := argB h
  suffices hg : Gets (cv id_laws_FnCountHeld [.sl false (vB xs)] []) fun r => r.1 = .bool true by
    obtain ⟨⟨v, H⟩, e, h⟩ := hg
    cases h
    exact ⟨H, e⟩
  obtain ⟨o, r, l, e1, hr, hl⟩ := DrawCountHeld_p xs
  have sl := hl.sm (by omega)
  have v1 := impl_BoxesValid_c l sl
  have v2 := impl_CountHeld_c l sl
  have v3 := spec_CountHeld_c l sl
  have hcl := cheldN_le sl (by have := hl.1; omega)
  have h1 := hr.1
  rw [laws_FnCountHeld_eq]
  simp only [evv, Nat.zero_add, if_true, if_false, decide_true, decide_false, Bool.false_eq_true, Bool.not_true, Bool.not_false, decide_eq_true_eq]
  refine Gets.ite (fun h => ?_) (fun h => ?_)
  · exact Gets.here rfl
  · by_cases hB : boxesT l = true
    · rw [hB] at v1
      have hc : cheldN l = heldN l := by unfold cheldN; rw [hB]; rfl
      rw [hc] at v2 v3 hcl
      simp only [evv, Nat.zero_add, if_true, if_false, decide_true, decide_false, Bool.false_eq_true, Bool.not_true, Bool.not_false, e1, h1, v1, v2, v3, hB]
      have hll := hl.1
      refine Gets.loop2 (I := fun n st H => ∃ (i : Nat) (k : List Box), n = l.length - i ∧ i ≤ l.length ∧ Emp l k i ∧ st = [.sl false (vR eX k), .int .i64 (heldN k : Nat), .int .i64 (i : Nat)])
        (P := fun q vs H => q = 0 ∧ vs = [.int .i64 0]) (n := l.length) ?_ ⟨0, l, by omega, by omega, ⟨hB, sl, rfl, hcl, fun j _ hj => by omega⟩, rfl⟩ ?_
      · rintro n st H ⟨i, k, rfl, hi, hk, rfl⟩
        rw [laws_FnCountHeld_l8_eq]
        have hkl := hk.2.2.1
        by_cases hlt : i < l.length
        · have e5 : vBinV (.int .i64) .add (.int .i64 (i : Int)) (.int .i64 1) = some (.int .i64 ((i + 1 : Nat) : Int)) := n_addN _ i 1 (by omega)
          simp only [evv, Nat.zero_add, if_true, if_false, decide_true, decide_false, Bool.false_eq_true, Bool.not_true, Bool.not_false, show ((i : Int) < (k.length : Int)) from by omega]
          refine Gets.loop2 (I := fun n st H => ∃ (k : List Box) (h : i < k.length), n = k[i].mails.length ∧ Emp l k i ∧ st = [.sl false (vR eX k), .int .i64 (heldN k : Nat), .int .i64 (i : Nat)])
            (P := fun q vs H => ∃ k : List Box, q = 0 ∧ Emp l k (i + 1) ∧ vs = [.sl false (vR eX k), .int .i64 (heldN k : Nat), .int .i64 (i : Nat)]) (n := (k[i]'(by omega)).mails.length) ?_ ⟨k, by omega, rfl, hk, rfl⟩ ?_
          · rintro n st G ⟨k, hik, rfl, hk, rfl⟩
            rw [laws_FnCountHeld_l10_eq]
            have i1 := vX_idx false k .i64 i hik
            rw [eX_e] at i1
            by_cases h0 : 0 < k[i].mails.length
            · obtain ⟨t1, t2, t3, hi', t4⟩ := hk.take hik h0
              obtain ⟨o2, r2, hr2, e2⟩ := impl_TakeMail_p k k[i].path hk.2.1
              rw [t1] at e2
              have h2 := hr2.1
              have hn := hk.2.2.2.1
              have e6 : vBinV (.int .i64) .sub (.int .i64 (heldN k : Nat)) (.int .i64 1) = some (.int .i64 ((heldN k - 1 : Nat) : Int)) := n_subN _ _ 1 (by omega) (by omega)
              have e7 : heldN k - 1 = heldN (takeL k k[i].path) := by omega
              rw [e7] at e6
              generalize takeL k k[i].path = L at *
              generalize takeM k k[i].path = M at *
              simp only [evv, Nat.zero_add, if_true, if_false, decide_true, decide_false, Bool.false_eq_true, Bool.not_true, Bool.not_false, i1, cO_e, e2, h2, e6, show ((k[i].mails.length : Nat) : Int) > 0 from by omega]
              exact ⟨_, rfl, .inr ⟨rfl, L[i].mails.length, by omega, L, hi', rfl, t2, rfl⟩⟩
            · simp only [evv, Nat.zero_add, if_true, if_false, decide_true, decide_false, Bool.false_eq_true, Bool.not_true, Bool.not_false, i1, show ¬ (((k[i].mails.length : Nat) : Int) > 0) from by omega]
              refine ⟨_, rfl, .inl ⟨0, rfl, k, rfl, ⟨hk.1, hk.2.1, hk.2.2.1, hk.2.2.2.1, fun j hj hji => ?_⟩, rfl⟩⟩
              by_cases e : j = i
              · subst e; omega
              · exact hk.2.2.2.2 j hj (by omega)
          · rintro _ _ G ⟨k, rfl, hk, rfl⟩
            simp only [evv, Nat.zero_add, if_true, if_false, decide_true, decide_false, Bool.false_eq_true, Bool.not_true, Bool.not_false, e5]
            exact ⟨_, rfl, .inr ⟨rfl, l.length - (i + 1), by omega, i + 1, k, rfl, by omega, hk, rfl⟩⟩
        · have hz : heldN k = 0 := heldN_zero fun j hj => hk.2.2.2.2 j hj (by omega)
          simp only [evv, Nat.zero_add, if_true, if_false, decide_true, decide_false, Bool.false_eq_true, Bool.not_true, Bool.not_false, hz, show ¬ ((i : Int) < (k.length : Int)) from by omega]
          exact ⟨_, rfl, .inl ⟨0, rfl, rfl, rfl⟩⟩
      · rintro _ _ H ⟨rfl, rfl⟩
        simp only [evv, Nat.zero_add, if_true, if_false, decide_true, decide_false, Bool.false_eq_true, Bool.not_true, Bool.not_false]
        exact Gets.here rfl
    · have hB' : boxesT l = false := by simpa using hB
      rw [hB'] at v1
      have hc : cheldN l = 0 := by unfold cheldN; rw [hB']; rfl
      rw [hc] at v2 v3
      simp only [evv, Nat.zero_add, if_true, if_false, decide_true, decide_false, Bool.false_eq_true, Bool.not_true, Bool.not_false, e1, h1, v1, v2, v3]
      exact Gets.here rfl
end Go.Proofs.YtikpckcdpmjpgaaDoor.Q
