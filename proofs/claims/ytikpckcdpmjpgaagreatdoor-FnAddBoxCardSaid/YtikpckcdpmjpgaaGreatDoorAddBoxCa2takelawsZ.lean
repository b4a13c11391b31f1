/- Contracts: the laws of mails that are taken. -/
import Derived.Test.YtikpckcdpmjpgaaGreatDoorAddBoxCa1takeZ
import Derived.Test.YtikpckcdpmjpgaaGreatDoorFnAddBoxK4
namespace Go.Proofs.YtikpckcdpmjpgaaGreatDoor.Q
open Go Go.AM
set_option linter.unusedSimpArgs false
set_option linter.unusedVariables false
set_option linter.unusedSectionVars false
theorem isP_uniq {l : List Box} {p : Bs} {i : Nat} (so : SortX l) (hi : i < l.length) (h : l[i].path = p) : l.findIdx (isP p) = i := by
 rw [List.findIdx_eq hi]
 refine ⟨by unfold isP; exact decide_eq_true h, fun j hj => ?_⟩
 unfold isP
 refine decide_eq_false fun e => ?_
 have := so j i hj hi
 rw [boxAt_get hi, boxAt_get (by omega), e, h] at this
 rw [show ltT p p = false from bl_irr p] at this
 cases this
theorem takeB_iff {l : List Box} {p : Bs} (h : takeB l p = true) : boxesT l = true /\ l.any (isP p) = true /\ ∃ hx : l.findIdx (isP p) < l.length, 0 < l[l.findIdx (isP p)].mails.length /\ l[l.findIdx (isP p)].path = p ∧
 takeL l p = l.set (l.findIdx (isP p)) ⟨l[l.findIdx (isP p)].path, l[l.findIdx (isP p)].mails.drop 1⟩ /\ takeM l p = l[l.findIdx (isP p)].mails.headD ⟨[], [], []⟩ := by
 have hB := h
 unfold takeB at h
 simp only [Bool.and_eq_true, Bool.not_eq_true', decide_eq_false_iff_not] at h
 have hx := findIdx_isP h.2.1
 have hat := boxAt_get hx
 refine ⟨h.1, h.2.1, hx, by have := h.2.2; rw [hat] at this; omega, ?_, by unfold takeL; rw [hB, hat]; rfl, by unfold takeM; rw [hB, hat]; rfl⟩
 have := List.findIdx_getElem (w := hx)
 unfold isP at this
 exact of_decide_eq_true this
theorem FnAddBox_v (u : V) (h : HasArg (.sl (.int .u8)) u) : ∃ H, cv id_laws_FnAddBox [u] [] = some (.bool true, H) := by
 obtain ⟨xs, rfl⟩ := argB h
 suffices hg : Gets (cv id_laws_FnAddBox [.sl false (vB xs)] []) fun r => r.1 = .bool true by
  obtain ⟨⟨v, H⟩, e, h⟩ := hg
  cases h
  exact ⟨H, e⟩
 obtain ⟨o, r, l, p, e1, hr, hl, hp⟩ := DrawAddBox_p xs
 have sl := hl.sm (by omega)
 have hll : l.length <= 1000000 := by have := hl.1; omega
 obtain ⟨o2, e2⟩ := impl_AddBox_p l p sl hll hl.path (by omega)
 have e3 := spec_AddBox_c l p sl hll (by omega)
 have hd := hl.add hp
 have sr := hd.sm (by omega)
 have m1 := impl_BoxesSame_c (addR l p) (addR l p) sr
 rw [decide_eq_true rfl] at m1
 have h1 := hr.1
 rw [laws_FnAddBox_eq]
 simp only [evv, decide_eq_true_eq]
 refine Gets.ite (fun h => ?_) (fun h => ?_)
 ·exact Gets.here rfl
 ·by_cases hB : addB l p = true
  ·have hR : addR l p = insX p l := by unfold addR; rw [hB]; rfl
   have hb := hB
   unfold addB at hb
   simp only [Bool.and_eq_true, Bool.not_eq_true', decide_eq_false_iff_not] at hb
   obtain ⟨b1, b2, b3, b4⟩ := hb
   have hv : boxesT (addR l p) = true := by rw [hR]; exact insX_valid b1 b2 b3 b4
   have hlen : (addR l p).length = l.length + 1 := by rw [hR, insX_len]
   have hany : (addR l p).any (isP p) = true := by rw [hR]; exact insX_any p l
   have hx := findIdx_isP hany
   have hget : (addR l p)[(addR l p).findIdx (isP p)] = ⟨p, []⟩ := by
    have hpx : (addR l p)[(addR l p).findIdx (isP p)].path = p := by
     have := List.findIdx_getElem (w := hx)
     unfold isP at this
     exact of_decide_eq_true this
    have hmem := List.getElem_mem hx
    have hmem : (addR l p)[(addR l p).findIdx (isP p)] ∈ insX p l := by rw [<- hR]; exact hmem
    rcases insX_mem hmem with e | e
    ·exact e
    ·rw [List.any_eq_false] at b3
     exact absurd (by unfold isP; exact decide_eq_true hpx) (b3 _ e)
   have hn : TnM ⟨[], [p], []⟩ := ⟨by simp, TnT.one (by omega) (by omega), by simp [TnT]⟩
   obtain ⟨o4, e5⟩ := impl_Deliver_p (addR l p) ⟨[], [p], []⟩ sr hd.path hn.sm hn.to1
   have hmt : mailT ⟨[], [p], []⟩ 1 30 = true := by
    unfold mailT
    simp [b2]
    first | done | rfl
   have hD : dlvB (addR l p) ⟨[], [p], []⟩ = true := by unfold dlvB; rw [hv, hmt]; rfl
   have hDR : dlvR (addR l p) ⟨[], [p], []⟩ = ((addR l p).set ((addR l p).findIdx (isP p)) ⟨p, [⟨[], [p], []⟩]⟩, [250]) := by
    unfold dlvR; unfold dlvB at hD; rw [hD]
    simp only [if_true]
    show dlS _ (addR l p, []) p = _
    unfold dlS dl1
    simp only [hany, if_true, boxAt_get hx, hget]
    rfl
   rw [hDR, hD] at e5
   generalize hD2 : (addR l p).set ((addR l p).findIdx (isP p)) ⟨p, [⟨[], [p], []⟩]⟩ = D at *
   have hDv : boxesT D = true := by
    have := dl1_valid (t := p) hv hmt (by simp)
    have e : (dl1 (addR l p) ⟨[], [p], []⟩ p).1 = D := by
     have q : (dlvR (addR l p) ⟨[], [p], []⟩).1 = D := by rw [hDR]
     rw [<- q]
     unfold dlvR; unfold dlvB at hD; rw [hD]; rfl
    rwa [e] at this
   have sD : SmXs D := by have := (dlvR_sm sr hd.path hn.sm hn.to1).sm (by omega); rwa [hDR] at this
   have hxD : (addR l p).findIdx (isP p) < D.length := by rw [<- hD2, List.length_set]; exact hx
   have hgD : D[(addR l p).findIdx (isP p)] = ⟨p, [⟨[], [p], []⟩]⟩ := by simp only [<- hD2, List.getElem_set_self]
   have huD : D.findIdx (isP p) = (addR l p).findIdx (isP p) := isP_uniq (sort_of hDv) hxD (by rw [hgD])
   have htB : takeB D p = true := by
    unfold takeB
    rw [huD, boxAt_get hxD, hDv, hgD]
    have : D.any (isP p) = true := List.any_eq_true.2 ⟨_, List.getElem_mem hxD, by rw [hgD]; exact decide_eq_true rfl⟩
    rw [this]; rfl
   obtain ⟨o5, r5, hr5, e6⟩ := impl_TakeMail_p D p sD
   obtain ⟨_, _, hx2, _, _, hL2, hM2⟩ := takeB_iff htB
   have hL3 : takeL D p = addR l p := by
    rw [hL2]
    simp only [huD, hgD]
    rw [<- hD2, List.set_set]
    show (addR l p).set _ ⟨p, []⟩ = _
    rw [<- hget, List.set_getElem_self]
   have hM3 : takeM D p = ⟨[], [p], []⟩ := by rw [hM2]; simp only [huD, hgD]; rfl
   rw [hL3] at hr5
   rw [hM3, htB] at e6
   have h5 := hr5.1
   have v1 := impl_BoxesValid_c (addR l p) sr
   rw [hv] at v1
   have v2 := mwInts_c [250] [250] (by simp)
   rw [decide_eq_true rfl] at v2
   have v3 := impl_MailSame_c ⟨[], [p], []⟩ ⟨[], [p], []⟩ hn.sm
   rw [decide_eq_true rfl] at v3
   simp only [cM_e] at e5 v3
   have hvI : vI .i64 [250] = [[.int .i64 250]] := rfl
   have hvT : vT [p] = [[.str p]] := rfl
   have hvN : vT [] = [] := rfl
   simp only [hvI] at v2 e5
   simp only [hvT, hvN] at e5 v3
   have e7 : vBinV (.int .i64) .add (.int .i64 (l.length : Nat)) (.int .i64 1) = some (.int .i64 ((l.length + 1 : Nat) : Int)) := n_addN _ _ 1 (by omega)
   generalize addR l p = R at *
   simp only [evv, cO_e, hvT, hvN, e1, h1, e2, e3, e5, e6, h5, m1, v1, v2, v3, e7, hlen, hB, vOX_strip]
   first | exact Gets.here rfl | exact Gets.here (by simpa using m1) | (simp; exact Gets.here rfl)
  ·have hB' : addB l p = false := by simpa using hB
   simp only [evv, e1, h1, e2, e3, m1, hB', vOX_strip]
   exact Gets.here rfl
end Go.Proofs.YtikpckcdpmjpgaaGreatDoor.Q
