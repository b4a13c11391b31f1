/- Contracts: the laws of mails that are taken. -/
import Derived.Test.YtikpckcdpmjpgaaGreatDoorTakeOrderCa1takeZ
import Derived.Test.YtikpckcdpmjpgaaGreatDoorFnTakeOrderK4
namespace Go.Proofs.YtikpckcdpmjpgaaGreatDoor.Q
open Go Go.AM
set_option linter.unusedSimpArgs false
set_option linter.unusedVariables false
set_option linter.unusedSectionVars false
theorem isP_uniq {l : List Box} {p : Bs} {i : Nat} (so : SortX l) (hi : i < l.length) (h : l[i].path = p) : l.findIdx (isP p) = i := by
  rw [List.findIdx_eq hi]
  refine ⟨by unfold isP; exact decide_eq_true h, fun j hj => ?_⟩
  unfold isP
  refine decide_eq_false fun e => ?_
  have := so j i hj hi
  rw [boxAt_get hi, boxAt_get (by omega), e, h] at this
  rw [show ltT p p = false from bl_irr p] at this
  cases this
theorem takeB_iff {l : List Box} {p : Bs} (h : takeB l p = true) : boxesT l = true ∧ l.any (isP p) = true ∧ ∃ hx : l.findIdx (isP p) < l.length, 0 < l[l.findIdx (isP p)].mails.length ∧ l[l.findIdx (isP p)].path = p ∧
    takeL l p = l.set (l.findIdx (isP p)) ⟨l[l.findIdx (isP p)].path, l[l.findIdx (isP p)].mails.drop 1⟩ ∧ takeM l p = l[l.findIdx (isP p)].mails.headD ⟨[], [], []⟩ := by
  have hB := h
  unfold takeB at h
  simp only [Bool.and_eq_true, Bool.not_eq_true', decide_eq_false_iff_not] at h
  have hx := findIdx_isP h.2.1
  have hat := boxAt_get hx
  refine ⟨h.1, h.2.1, hx, by have := h.2.2; rw [hat] at this; omega, ?_, by unfold takeL; rw [hB, hat]; rfl, by unfold takeM; rw [hB, hat]; rfl⟩
  have := List.findIdx_getElem (w := hx)
  unfold isP at this
  exact of_decide_eq_true this
theorem takeL_len {l : List Box} {p : Bs} (h : takeB l p = true) : (takeL l p).length = l.length := by
  obtain ⟨_, _, hx, _, _, hL, _⟩ := takeB_iff h
  rw [hL, List.length_set]
theorem takeL_valid {l : List Box} {p : Bs} (h : takeB l p = true) : boxesT (takeL l p) = true := by
  obtain ⟨hv, _, hx, _, _, hL, _⟩ := takeB_iff h
  have hlen := takeL_len h
  rw [boxes_iff] at hv ⊢
  refine ⟨by omega, fun b hb => ?_, fun i j hij hj => ?_⟩
  · rw [hL] at hb
    rcases List.mem_or_eq_of_mem_set hb with hb | rfl
    · exact hv.2.1 b hb
    · have q := hv.2.1 _ (List.getElem_mem hx)
      exact ⟨q.1, by have := q.2.1; simp; omega, fun m hm => q.2.2 m (List.mem_of_mem_drop hm)⟩
  · have hj' : j < l.length := by omega
    have q := hv.2.2 i j hij hj'
    have hp : ∀ k, (boxAt (takeL l p) k).path = (boxAt l k).path := fun k => by
      rw [hL, boxAt_set hx]
      by_cases e : k = l.findIdx (isP p)
      · rw [if_pos e, e, boxAt_get hx]
      · rw [if_neg e]
    rw [hp, hp]; exact q
theorem FnTakeOrder_v (u : V) (h : HasArg (.sl (.int .u8)) u) : ∃ H, cv id_laws_FnTakeOrder [u] [] = some (.bool true, H) := by
  obtain ⟨xs, rfl⟩ := argB h
  suffices hg : Gets (cv id_laws_FnTakeOrder [.sl false (vB xs)] []) fun r => r.1 = .bool true by
    obtain ⟨⟨v, H⟩, e, h⟩ := hg
    cases h
    exact ⟨H, e⟩
  obtain ⟨o, r, l, m, e1, hr, hl, hm⟩ := DrawDeliverMail_p xs
  have sl := hl.sm (by omega)
  obtain ⟨o2, e2⟩ := impl_Deliver_p l m sl hl.path hm.sm hm.to1
  have e3 := spec_DeliverMail_c l m sl hl.path hm.sm hm.to1
  have hok := (dlvR_sm sl hl.path hm.sm hm.to1).sm (by omega)
  have m1 := impl_BoxesSame_c (dlvR l m).1 (dlvR l m).1 hok
  rw [decide_eq_true rfl] at m1
  have hcl : (dlvR l m).2.length ≤ 1000 := by
    unfold dlvR
    by_cases hb : (boxesT l && mailT m 1 30) = true
    · rw [hb]
      rw [Bool.and_eq_true] at hb
      have := mailT_to hb.2
      have := (dlN_len m m.to (l, [])).1
      simp at this ⊢; omega
    · have : (boxesT l && mailT m 1 30) = false := by simpa using hb
      rw [this]; simp
  have m2 := mwInts_c (dlvR l m).2 (dlvR l m).2 (by omega)
  rw [decide_eq_true rfl] at m2
  have m3 := impl_MailSame_c m m hm.sm
  rw [decide_eq_true rfl] at m3
  simp only [cM_e] at e2 e3 m3
  have h1 := hr.1
  rw [laws_FnTakeOrder_eq]
  simp only [evv, Nat.zero_add, if_true, if_false, decide_true, decide_false, Bool.false_eq_true, Bool.not_true, Bool.not_false, decide_eq_true_eq]
  refine Gets.ite (fun h => ?_) (fun h => ?_)
  · exact Gets.here rfl
  · by_cases hB : dlvB l m = true
    · have hbm : boxesT l = true ∧ mailT m 1 30 = true := by unfold dlvB at hB; rwa [Bool.and_eq_true] at hB
      have hR : dlvR l m = dlN m m.to (l, []) := by unfold dlvR; unfold dlvB at hB; rw [hB]; rfl
      have hc0 : (dlvR l m).2.length = m.to.length := by rw [hR]; have := (dlN_len m m.to (l, [])).1; simpa using this
      have hto : 0 < m.to.length := by
        have := hbm.2
        unfold mailT at this
        simp only [Bool.and_eq_true, decide_eq_true_eq] at this
        omega
      have i0 : vIdxV 1 (.sl false (vI .i64 (dlvR l m).2)) (.int .i64 0) = some (.elt [.int .i64 ((dlvR l m).2[0]'(by omega))] 0) := vI_idx false .i64 _ .i64 0 (by omega)
      have hml := hm.2.1.1
      by_cases c1 : (dlvR l m).2[0]'(by omega) = 250
      · rw [c1] at i0
        by_cases c2 : m.to.length = 1
        · obtain ⟨f, to, lines⟩ := m
          obtain ⟨t, rfl⟩ := List.length_eq_one_iff.1 c2
          have hR1 : dlvR l ⟨f, [t], lines⟩ = ((dl1 l ⟨f, [t], lines⟩ t).1, [(dl1 l ⟨f, [t], lines⟩ t).2]) := by rw [hR]; rfl
          have hp1 : put1 ⟨f, [t], lines⟩ t = ⟨f, [t], lines⟩ := rfl
          have h250 : (dl1 l ⟨f, [t], lines⟩ t).2 = 250 := by
            have : (dlvR l ⟨f, [t], lines⟩).2[0]? = some 250 := by rw [List.getElem?_eq_getElem (by omega), c1]
            rw [hR1] at this
            simpa using this
          obtain ⟨hany, hx, hL⟩ : l.any (isP t) = true ∧ ∃ hx : l.findIdx (isP t) < l.length, (dlvR l ⟨f, [t], lines⟩).1 = l.set (l.findIdx (isP t)) ⟨l[l.findIdx (isP t)].path, l[l.findIdx (isP t)].mails ++ [⟨f, [t], lines⟩]⟩ := by
            rw [hR1]
            unfold dl1 at h250 ⊢
            by_cases ha : l.any (isP t) = true
            · rw [if_pos ha] at h250 ⊢
              have hx := findIdx_isP ha
              rw [boxAt_get hx] at h250 ⊢
              split at h250
              · cases h250
              · rename_i q
                rw [if_neg q]
                exact ⟨ha, hx, by rw [hp1]⟩
            · rw [if_neg ha] at h250; cases h250
          have hvL : boxesT (dlvR l ⟨f, [t], lines⟩).1 = true := by rw [hR1]; exact dl1_valid hbm.1 hbm.2 (by simp)
          have hpx : l[l.findIdx (isP t)].path = t := by
            have := List.findIdx_getElem (w := hx)
            unfold isP at this
            exact of_decide_eq_true this
          have iT : vIdxV 1 (.sl false [[.str t]]) (.int .i64 0) = some (.elt [.str t] 0) := rfl
          have hvT : vT [t] = [[.str t]] := rfl
          have hkl : l[l.findIdx (isP t)].mails.length ≤ 102 := (hl.2 _ (List.getElem_mem hx)).2.1
          simp only [hvT] at e1 e2 e3 m3
          clear c1
          generalize hcs : (dlvR l ⟨f, [t], lines⟩).2 = cs at *
          generalize hLL : (dlvR l ⟨f, [t], lines⟩).1 = L at *
          have hll := hl.1
          simp only [evv, Nat.zero_add, if_true, if_false, decide_true, decide_false, Bool.false_eq_true, Bool.not_true, Bool.not_false, cO_e, hvT, e1, h1, e2, e3, m1, m2, hB, i0, vOX_strip, vT_strip]
          refine Gets.loop2 (I := fun n st H => ∃ i c : Nat, n = l.length - i ∧ i ≤ l.length ∧ (l.findIdx (isP t) < i → c = l[l.findIdx (isP t)].mails.length) ∧ st = [.sl false (vR eX l), .sl false (vR eX L), .int .i64 (c : Nat), .int .i64 (i : Nat), .str f, .sl false [[.str t]], .sl false (vT lines)])
            (P := fun q vs H => q = 0 ∧ vs = [.sl false (vR eX L), .int .i64 (l[l.findIdx (isP t)].mails.length : Nat), .str f, .sl false [[.str t]], .sl false (vT lines)]) (n := l.length) ?_ ⟨0, 0, by omega, by omega, fun h => by omega, rfl⟩ ?_
          · rintro n st H ⟨i, c, rfl, hi, hc, rfl⟩
            rw [laws_FnTakeOrder_l10_eq]
            by_cases hlt : i < l.length
            · have i1 := vX_idx false l .i64 i hlt
              rw [eX_e] at i1
              have e5 : vBinV (.int .i64) .add (.int .i64 (i : Int)) (.int .i64 1) = some (.int .i64 ((i + 1 : Nat) : Int)) := n_addN _ i 1 (by omega)
              by_cases hp : l[i].path = t
              · have hu := isP_uniq (sort_of hbm.1) hlt hp
                simp only [evv, Nat.zero_add, if_true, if_false, decide_true, decide_false, Bool.false_eq_true, Bool.not_true, Bool.not_false, i1, iT, hp, e5, show ((i : Int) < (l.length : Int)) from by omega]
                refine ⟨_, rfl, .inr ⟨rfl, l.length - (i + 1), by omega, i + 1, l[i].mails.length, rfl, by omega, fun _ => by simp only [hu], rfl⟩⟩
              · have hne : i ≠ l.findIdx (isP t) := fun e => hp (by simp only [e]; exact hpx)
                simp only [evv, Nat.zero_add, if_true, if_false, decide_true, decide_false, Bool.false_eq_true, Bool.not_true, Bool.not_false, i1, iT, hp, e5, show ((i : Int) < (l.length : Int)) from by omega]
                exact ⟨_, rfl, .inr ⟨rfl, l.length - (i + 1), by omega, i + 1, c, rfl, by omega, fun h => hc (by omega), rfl⟩⟩
            · have := hc (by omega)
              subst this
              simp only [evv, Nat.zero_add, if_true, if_false, decide_true, decide_false, Bool.false_eq_true, Bool.not_true, Bool.not_false, show ¬ ((i : Int) < (l.length : Int)) from by omega]
              exact ⟨_, rfl, .inl ⟨0, rfl, rfl, rfl⟩⟩
          · rintro _ _ H ⟨rfl, rfl⟩
            simp only [evv, Nat.zero_add, if_true, if_false, decide_true, decide_false, Bool.false_eq_true, Bool.not_true, Bool.not_false]
            generalize hi0 : l.findIdx (isP t) = i0 at *
            generalize hb0 : l[i0] = b0 at *
            have step : ∀ (k : List Box) (j : Nat), boxesT k = true → SmXs k → (∃ h : i0 < k.length, k[i0].path = t ∧ k[i0].mails = (b0.mails ++ [(⟨f, [t], lines⟩ : Mail)]).drop j) → j ≤ b0.mails.length →
                ∃ o r, RoX r (takeL k t) ∧ pc id_impl_TakeMail [.sl false (vR eX k), .str t] = some (.tup [.sl o r, .agg (cO (takeM k t)), .bool true]) ∧ boxesT (takeL k t) = true ∧ SmXs (takeL k t) ∧ (∃ h : i0 < (takeL k t).length, (takeL k t)[i0].path = t ∧ (takeL k t)[i0].mails = (b0.mails ++ [(⟨f, [t], lines⟩ : Mail)]).drop (j + 1)) ∧ (j = b0.mails.length → takeM k t = (⟨f, [t], lines⟩ : Mail)) := by
              rintro k j hv hs ⟨hk, hkp, hkm⟩ hj
              have hu := isP_uniq (sort_of hv) hk hkp
              have hlen : k[i0].mails.length = b0.mails.length + 1 - j := by rw [hkm]; simp
              have hB : takeB k t = true := by
                unfold takeB
                rw [hu, boxAt_get hk, hv]
                have : k.any (isP t) = true := List.any_eq_true.2 ⟨_, List.getElem_mem hk, decide_eq_true hkp⟩
                rw [this, decide_eq_false (by omega)]; rfl
              obtain ⟨o, r, hr, e⟩ := impl_TakeMail_p k t hs
              rw [hB] at e
              obtain ⟨_, _, hx2, _, _, hL2, hM2⟩ := takeB_iff hB
              have hget : (takeL k t)[i0]? = some ⟨t, (b0.mails ++ [(⟨f, [t], lines⟩ : Mail)]).drop (j + 1)⟩ := by
                have q : ∀ (n : Nat) (hn : n < k.length), n = i0 → (k.set n ⟨k[n].path, k[n].mails.drop 1⟩)[i0]? = some ⟨t, (b0.mails ++ [(⟨f, [t], lines⟩ : Mail)]).drop (j + 1)⟩ := fun n hn e => by
                  subst e
                  rw [List.getElem?_set_self hn, hkp, hkm, List.drop_drop]
                rw [hL2]
                exact q _ hx2 hu
              have hi' : i0 < (takeL k t).length := by rw [takeL_len hB]; exact hk
              rw [List.getElem?_eq_getElem hi'] at hget
              have hget := Option.some.inj hget
              refine ⟨o, r, hr, e, takeL_valid hB, takeL_sm hs, ⟨hi', by rw [hget], by rw [hget]⟩, fun hjj => ?_⟩
              rw [hM2]
              simp only [hu, hkm, hjj]
              rw [List.drop_append_of_le_length (by omega), List.drop_length]
              rfl
            have hsL : SmXs L := hok
            refine Gets.loop2 (I := fun n st H => ∃ (j : Nat) (k : List Box), n = b0.mails.length - j ∧ j ≤ b0.mails.length ∧ boxesT k = true ∧ SmXs k ∧ (∃ h : i0 < k.length, k[i0].path = t ∧ k[i0].mails = (b0.mails ++ [(⟨f, [t], lines⟩ : Mail)]).drop j) ∧ st = [.sl false (vR eX k), .int .i64 (b0.mails.length : Nat), .int .i64 (j : Nat), .str f, .sl false [[.str t]], .sl false (vT lines)])
              (P := fun q vs H => ∃ k : List Box, q = 0 ∧ boxesT k = true ∧ SmXs k ∧ (∃ h : i0 < k.length, k[i0].path = t ∧ k[i0].mails = (b0.mails ++ [(⟨f, [t], lines⟩ : Mail)]).drop b0.mails.length) ∧ vs = [.sl false (vR eX k), .str f, .sl false [[.str t]], .sl false (vT lines)]) (n := b0.mails.length) ?_
              ⟨0, L, by omega, by omega, hvL, hsL, ⟨by rw [hL, List.length_set]; exact hx, by simp only [hL, List.getElem_set_self]; exact hpx, by simp only [hL, List.getElem_set_self, List.drop_zero]⟩, rfl⟩ ?_
            · rintro n st H ⟨j, k, rfl, hj, hv, hs, hat, rfl⟩
              rw [laws_FnTakeOrder_l15_eq]
              by_cases hlt : j < b0.mails.length
              · obtain ⟨o3, r3, hr3, e4, hv2, hs2, hat2, _⟩ := step k j hv hs hat hj
                have h3 := hr3.1
                have e5 : vBinV (.int .i64) .add (.int .i64 (j : Int)) (.int .i64 1) = some (.int .i64 ((j + 1 : Nat) : Int)) := n_addN _ j 1 (by omega)
                generalize takeL k t = L2 at *
                generalize takeM k t = M2 at *
                simp only [evv, Nat.zero_add, if_true, if_false, decide_true, decide_false, Bool.false_eq_true, Bool.not_true, Bool.not_false, cO_e, iT, e4, h3, e5, show ((j : Int) < (b0.mails.length : Int)) from by omega]
                exact ⟨_, rfl, .inr ⟨rfl, b0.mails.length - (j + 1), by omega, j + 1, L2, rfl, by omega, hv2, hs2, hat2, rfl⟩⟩
              · have : j = b0.mails.length := by omega
                subst this
                simp only [evv, Nat.zero_add, if_true, if_false, decide_true, decide_false, Bool.false_eq_true, Bool.not_true, Bool.not_false, show ¬ ((b0.mails.length : Int) < (b0.mails.length : Int)) from by omega]
                exact ⟨_, rfl, .inl ⟨0, rfl, k, rfl, hv, hs, hat, rfl⟩⟩
            · rintro _ _ H ⟨k, rfl, hv, hs, hat, rfl⟩
              obtain ⟨o3, r3, hr3, e4, _, _, _, hM⟩ := step k b0.mails.length hv hs hat (Nat.le_refl _)
              rw [hM rfl] at e4
              have h3 := hr3.1
              generalize takeL k t = L2 at *
              simp only [evv, Nat.zero_add, if_true, if_false, decide_true, decide_false, Bool.false_eq_true, Bool.not_true, Bool.not_false, cO_e, hvT, iT, e4, h3, m3, vT_strip]
              exact Gets.here (by first | rfl | simpa using m3)
        · simp only [evv, Nat.zero_add, if_true, if_false, decide_true, decide_false, Bool.false_eq_true, Bool.not_true, Bool.not_false, cO_e, e1, h1, e2, e3, m1, m2, hB, i0, c2, vOX_strip, vT_strip, show ¬ ((m.to.length : Int) = 1) from by omega]
          exact Gets.here rfl
      · simp only [evv, Nat.zero_add, if_true, if_false, decide_true, decide_false, Bool.false_eq_true, Bool.not_true, Bool.not_false, cO_e, e1, h1, e2, e3, m1, m2, hB, i0, c1, vOX_strip, vT_strip]
        exact Gets.here rfl
    · have hB' : dlvB l m = false := by simpa using hB
      simp only [evv, Nat.zero_add, if_true, if_false, decide_true, decide_false, Bool.false_eq_true, Bool.not_true, Bool.not_false, cO_e, e1, h1, e2, e3, m1, m2, hB', vOX_strip]
      exact Gets.here rfl
end Go.Proofs.YtikpckcdpmjpgaaGreatDoor.Q
