/- Contracts: mailboxes are added, the program's way. -/
import Derived.Test.YtjobinbeggkliabGreatDoorDeliverNoneC98splitZ
import Derived.Test.YtjobinbeggkliabGreatDoorFnDeliverNoneK4
namespace Go.Proofs.YtjobinbeggkliabGreatDoor.Q
open Go Go.AM
set_option linter.unusedSimpArgs false
set_option linter.unusedVariables false
set_option linter.unusedSectionVars false
theorem vOX_takeF : ∀ (l : List Box) (i : Nat), (vOX l).flatten.take (i * 2) = (vOX (l.take i)).flatten
  | [], i => by simp [vOX]
  | b :: l, 0 => by simp [vOX]
  | b :: l, i + 1 => by
    have := vOX_takeF l i
    show (cOx b ++ (vOX l).flatten).take ((i + 1) * 2) = cOx b ++ (vOX (l.take i)).flatten
    rw [← this, show (i + 1) * 2 = (cOx b).length + i * 2 by simp [cOx]; omega, List.take_length_add_append]
theorem vOX_dropF : ∀ (l : List Box) (i : Nat), (vOX l).flatten.drop (i * 2) = (vOX (l.drop i)).flatten
  | [], i => by simp [vOX]
  | b :: l, 0 => by simp [vOX]
  | b :: l, i + 1 => by
    have := vOX_dropF l i
    show (cOx b ++ (vOX l).flatten).drop ((i + 1) * 2) = (vOX (l.drop i)).flatten
    rw [← this, show (i + 1) * 2 = (cOx b).length + i * 2 by simp [cOx]; omega, List.drop_length_add_append]
theorem vOX_flat_app (a b : List Box) : (vOX a).flatten ++ (vOX b).flatten = (vOX (a ++ b)).flatten := by rw [← vOX_app, List.flatten_append]
theorem insX_at {p : Bs} : ∀ {l : List Box} {i : Nat}, i ≤ l.length → (∀ j, j < i → ltT (boxAt l j).path p = true) → (i < l.length → ltT p (boxAt l i).path = true) → insX p l = l.take i ++ [⟨p, []⟩] ++ l.drop i
  | [], i, hi, _, _ => by
    have : i = 0 := by simpa using hi
    subst this; rfl
  | b :: l, 0, _, _, h => by
    have : ltT p b.path = true := h (by simp)
    simp only [insX, this, if_true, List.take_zero, List.drop_zero, List.nil_append, List.cons_append]
  | b :: l, i + 1, hi, h1, h2 => by
    have hb : ltT b.path p = true := h1 0 (by omega)
    have hb' : ltT p b.path = false := by
      cases q : ltT p b.path with
      | false => rfl
      | true => have := bl_trans hb q; rw [bl_irr] at this; cases this
    have ih := insX_at (p := p) (l := l) (i := i) (by simpa using hi) (fun j hj => h1 (j + 1) (by omega)) (fun h => h2 (by simp; omega))
    simp only [insX, hb', Bool.false_eq_true, if_false, ih, List.take_succ_cons, List.drop_succ_cons, List.cons_append]
theorem InsertX_nil (p : Bs) (H : VH) : cv id_slices_Insert___impl_Box_impl_Box_ [.sl true [], .int .i64 0, .sl true [[.str p, .sl true []]]] H = some (.obs H.length 0 1 2, H ++ [[.str p, .sl true []]]) := by
  show callV vb _ _ _ = _
  rw [callV_prim vb _ _ _ (g := insV 2 40) rfl]
  rfl
theorem InsertX_obs {l : List Box} {k i : Nat} {H : VH} (p : Bs) (hk : H[k]? = some (vOX l).flatten) (hl : l ≠ []) (hll : l.length ≤ 1000000) (hi : i ≤ l.length) :
    cv id_slices_Insert___impl_Box_impl_Box_ [.obs k 0 l.length 2, .int .i64 (i : Nat), .sl true [[.str p, .sl true []]]] H = some (.obs H.length 0 (l.length + 1) 2, H.set k [] ++ [(vOX (l.take i ++ [⟨p, []⟩] ++ l.drop i)).flatten]) := by
  show callV vb _ _ _ = _
  rw [callV_prim vb _ _ _ (g := insV 2 40) rfl]
  have h0 : 0 < l.length := List.length_pos_iff.2 hl
  have hf : (vOX l).flatten.length = l.length * 2 := by have := (vOX_rows l).flat; rw [this, vOX_len]
  simp only [insV, hk, Option.bind_some]
  rw [if_pos (by first | exact ⟨rfl, h0, hf, by omega, by omega, rfl, by simp; omega⟩ | exact ⟨trivial, h0, hf, by omega, by omega, rfl, by simp; omega⟩)]
  simp only [Int.toNat_natCast, vOX_takeF, vOX_dropF]
  have e : [[V.str p, V.sl true []]].flatten = (vOX [⟨p, []⟩]).flatten := rfl
  rw [e, vOX_flat_app, vOX_flat_app]
  rfl
theorem impl_AddBox_g (l : List Box) (p : Bs) (h : SmXs l) (hll : l.length ≤ 1000000) (hs : ∀ b ∈ l, b.path.length ≤ 1000000) (hp : p.length ≤ 1000000) :
    Gets2 (cv id_impl_AddBox [.sl false (vR eX l), .str p] []) (fun r H => (addB l p = false ∧ r = .tup [.sl true [], .bool false]) ∨
      (addB l p = true ∧ ∃ o, r = .tup [o, .bool true] ∧ HoX o H (addR l p))) := by
  have e1 := impl_BoxesValid_c l h
  have e2 := isPath_c p (by omega)
  have e3 := copyBoxes_c l h
  obtain ⟨at_, kn, hat1, hbp, hat2, hat3⟩ := boxPlace_g l p (by omega)
  refine Gets2.of ?_
  rw [impl_AddBox_eq]
  unfold addR addB
  by_cases c1 : boxesT l = true
  · obtain ⟨q1, q2, q3, q4⟩ := hat3 (sort_of c1)
    by_cases c2 : pathT p = true
    · by_cases c3 : l.any (isP p) = true
      · rw [c3] at q1
        simp only [evv, Nat.zero_add, if_true, if_false, decide_true, decide_false, Bool.false_eq_true, Bool.not_true, Bool.not_false, qco_d, hbp, e1, e2, c1, c2, c3, q1]
        exact Gets.here (.inl ⟨rfl, rfl⟩)
      · have c3' : l.any (isP p) = false := by simpa using c3
        rw [c3'] at q1
        by_cases c4 : l.length = 8
        · simp only [evv, Nat.zero_add, if_true, if_false, decide_true, decide_false, Bool.false_eq_true, Bool.not_true, Bool.not_false, qco_d, hbp, e1, e2, c1, c2, c3', q1, show ((l.length : Int) = 8) from by omega, decide_eq_true c4]
          exact Gets.here (.inl ⟨rfl, rfl⟩)
        · have hins : insX p l = l.take at_ ++ [⟨p, []⟩] ++ l.drop at_ := insX_at hat1 q3 (fun hlt => by
            cases hq : ltT p (boxAt l at_).path with
            | true => rfl
            | false =>
            have e := bl_tri (q4 hlt) hq
            rw [boxAt_get hlt] at e
            have : l.any (isP p) = true := List.any_eq_true.2 ⟨_, List.getElem_mem hlt, decide_eq_true e⟩
            rw [this] at c3'; cases c3')
          simp only [evv, Nat.zero_add, if_true, if_false, decide_true, decide_false, Bool.false_eq_true, Bool.not_true, Bool.not_false, qco_d, pco_d, hbp, e1, e2, e3, c1, c2, c3', q1, show ¬ ((l.length : Int) = 8) from by omega, decide_eq_false c4]
          by_cases hn : l = []
          · subst hn
            have ha0 : at_ = 0 := by simpa using hat1
            subst ha0
            show Gets (promB 1 (.sl true []) [] _) _
            rw [promB_nil]
            have i1 := InsertX_nil p []
            rw [show ((0 : Nat) : Int) = 0 from rfl]
            simp only [evv, Nat.zero_add, if_true, if_false, decide_true, decide_false, Bool.false_eq_true, Bool.not_true, Bool.not_false, i1]
            exact Gets.here (.inr ⟨by first | trivial | rfl, _, rfl, .inr ⟨by simp [insX], 0, rfl, rfl⟩⟩)
          · rw [promB_one [] _ (fun e => hn (by simpa [vOX] using e)) (vOX_rows l) (vOX_own l), vOX_len]
            have i1 := InsertX_obs (k := 0) (i := at_) (H := [(vOX l).flatten]) p rfl hn hll hat1
            simp only [evv, Nat.zero_add, if_true, if_false, decide_true, decide_false, Bool.false_eq_true, Bool.not_true, Bool.not_false, List.nil_append, List.length_nil, i1]
            refine Gets.here (.inr ⟨by first | trivial | rfl, _, rfl, .inr ⟨by rw [hins]; simp, 1, ?_, ?_⟩⟩)
            · rw [insX_len]; rfl
            · rw [hins]; rfl
    · have c2' : pathT p = false := by simpa using c2
      simp only [evv, Nat.zero_add, if_true, if_false, decide_true, decide_false, Bool.false_eq_true, Bool.not_true, Bool.not_false, qco_d, hbp, e1, e2, c1, c2']
      exact Gets.here (.inl ⟨rfl, rfl⟩)
  · have c1' : boxesT l = false := by simpa using c1
    simp only [evv, Nat.zero_add, if_true, if_false, decide_true, decide_false, Bool.false_eq_true, Bool.not_true, Bool.not_false, qco_d, hbp, e1, c1']
    exact Gets.here (.inl ⟨rfl, rfl⟩)
theorem impl_AddBox_p (l : List Box) (p : Bs) (h : SmXs l) (hll : l.length ≤ 1000000) (hs : ∀ b ∈ l, b.path.length ≤ 1000000) (hp : p.length ≤ 1000000) :
    ∃ o, pc id_impl_AddBox [.sl false (vR eX l), .str p] = some (.tup [.sl o (vR eX (addR l p)), .bool (addB l p)]) := by
  obtain ⟨v, H, e, hq⟩ := impl_AddBox_g l p h hll hs hp
  rcases hq with ⟨hf, rfl⟩ | ⟨hf, o, rfl, ho⟩
  · refine ⟨true, ?_⟩
    have : addR l p = [] := by unfold addR; rw [hf]; rfl
    rw [this, hf]
    exact pc_of e (by simp only [evv, Nat.zero_add, if_true, if_false, decide_true, decide_false, Bool.false_eq_true, Bool.not_true, Bool.not_false]) rfl
  · rw [hf]
    rcases ho with ⟨hl, rfl⟩ | ⟨hne, k, rfl, hk⟩
    · refine ⟨true, ?_⟩
      rw [hl]
      exact pc_of e (by simp only [evv, Nat.zero_add, if_true, if_false, decide_true, decide_false, Bool.false_eq_true, Bool.not_true, Bool.not_false]) rfl
    · refine ⟨false, pc_un e (by simp only [evv, Nat.zero_add, if_true, if_false, decide_true, decide_false, Bool.false_eq_true, Bool.not_true, Bool.not_false]) (by simp only [data, dataL, Bool.false_and]) ?_ (by simp only [data, dataL, vR_data, Bool.and_self])⟩
      have := unobs1_obs hk (vOX_rows _)
      rw [vOX_len, vOX_strip] at this
      simp only [unobs, unobsL, this, show ∀ b, unobs1 H (.bool b) = some (.bool b) from fun _ => rfl, Option.bind_some, Option.map_some]
theorem mailT_one {m : Mail} {p : Bs} (h : mailT m 1 30 = true) (hp : pathT p = true) : mailT ⟨m.from_, [p], m.lines⟩ 1 30 = true := by
  unfold mailT at h ⊢
  simp only [Bool.and_eq_true, decide_eq_true_eq, Bool.not_eq_true', List.any_eq_false] at h ⊢
  obtain ⟨h1, h2, h3, h4, h5, h6⟩ := h
  refine ⟨h1, by simp, by simp, fun x hx => ?_, h5, h6⟩
  simp at hx
  subst hx; simp [hp]
theorem FnDeliverNone_v (u : V) (h : HasArg (.sl (.int .u8)) u) : ∃ H, cv id_laws_FnDeliverNone [u] [] = some (.bool true, H) := by
  obtain ⟨xs, rfl⟩ := argB h
  suffices hg : Gets (cv id_laws_FnDeliverNone [.sl false (vB xs)] []) fun r => r.1 = .bool true by
    obtain ⟨⟨v, H⟩, e, h⟩ := hg
    cases h
    exact ⟨H, e⟩
  obtain ⟨o, r, l, m, e1, hr, hl, hm⟩ := DrawDeliverMail_p xs
  have sl := hl.sm (by omega)
  have hll : l.length ≤ 1000000 := by have := hl.1; omega
  obtain ⟨o2, e2⟩ := impl_Deliver_p l m sl hl.path hm.sm hm.to1
  have e3 := spec_DeliverMail_c l m sl hl.path hm.sm hm.to1
  have hok := (dlvR_sm sl hl.path hm.sm hm.to1).sm (by omega)
  have m1 := impl_BoxesSame_c (dlvR l m).1 (dlvR l m).1 hok
  rw [decide_eq_true rfl] at m1
  have hcl : (dlvR l m).2.length ≤ 1000 := by
    unfold dlvR
    by_cases hb : (boxesT l && mailT m 1 30) = true
    · rw [hb]
      rw [Bool.and_eq_true] at hb
      have := mailT_to hb.2
      have := (dlN_len m m.to (l, [])).1
      simp at this ⊢; omega
    · have : (boxesT l && mailT m 1 30) = false := by simpa using hb
      rw [this]; simp
  have m2 := mwInts_c (dlvR l m).2 (dlvR l m).2 (by omega)
  rw [decide_eq_true rfl] at m2
  simp only [cM_e] at e2 e3
  obtain ⟨np, hnp⟩ : ∃ p : Bs, p = [110, 111, 98, 111, 100, 121, 64, 110, 111, 46, 119, 104, 101, 114, 101] := ⟨_, rfl⟩
  have hnl : np.length = 15 := by rw [hnp]; rfl
  obtain ⟨o3, e4⟩ := impl_AddBox_p l np sl hll hl.path (by omega)
  have hn : TnM ⟨m.from_, [np], m.lines⟩ := ⟨hm.1, TnT.one (by omega) (by omega), hm.2.2⟩
  obtain ⟨o4, e5⟩ := impl_Deliver_p l ⟨m.from_, [np], m.lines⟩ sl hl.path hn.sm hn.to1
  have m3 := impl_BoxesSame_c l l sl
  rw [decide_eq_true rfl] at m3
  have m4 := mwInts_c [550] [550] (by simp)
  rw [decide_eq_true rfl] at m4
  simp only [cM_e] at e5
  rw [laws_FnDeliverNone_eq]
  rw [← hnp]
  simp only [evv, Nat.zero_add, if_true, if_false, decide_true, decide_false, Bool.false_eq_true, Bool.not_true, Bool.not_false, decide_eq_true_eq]
  refine Gets.ite (fun h => ?_) (fun h => ?_)
  · exact Gets.here rfl
  · by_cases hB : dlvB l m = true
    · have hbm : boxesT l = true ∧ mailT m 1 30 = true := by unfold dlvB at hB; rwa [Bool.and_eq_true] at hB
      by_cases hA : addB l np = true
      · have ha := hA
        unfold addB at ha
        simp only [Bool.and_eq_true, Bool.not_eq_true', decide_eq_false_iff_not] at ha
        obtain ⟨_, b2, b3, _⟩ := ha
        have hD : dlvB l ⟨m.from_, [np], m.lines⟩ = true := by unfold dlvB; rw [hbm.1, mailT_one hbm.2 b2]; rfl
        have hR : dlvR l ⟨m.from_, [np], m.lines⟩ = (l, [550]) := by
          unfold dlvR; unfold dlvB at hD; rw [hD]
          simp only [if_true]
          show dlS _ (l, []) np = _
          unfold dlS dl1
          simp only [b3, Bool.false_eq_true, if_false, List.nil_append]
        rw [hR, hD] at e5
        have hvI : vI .i64 [550] = [[.int .i64 550]] := rfl
        have hvT : vT [np] = [[.str np]] := rfl
        rw [hvI] at m4
        simp only [hvI, hvT] at e5
        have i1 : vIdxV 1 (.sl false [[.str np]]) (.int .i64 0) = some (.elt [.str np] 0) := rfl
        simp only [evv, Nat.zero_add, if_true, if_false, decide_true, decide_false, Bool.false_eq_true, Bool.not_true, Bool.not_false, cO_e, e1, hr.1, e2, e3, e4, e5, m1, m2, m3, m4, hA, hB, vOX_strip, i1]
        exact Gets.here (by first | rfl | simpa using m4)
      · have hA' : addB l np = false := by simpa using hA
        have i1 : vIdxV 1 (.sl false [[.str np]]) (.int .i64 0) = some (.elt [.str np] 0) := rfl
        simp only [evv, Nat.zero_add, if_true, if_false, decide_true, decide_false, Bool.false_eq_true, Bool.not_true, Bool.not_false, cO_e, e1, hr.1, e2, e3, e4, m1, m2, hA', hB, vOX_strip, i1]
        exact Gets.here rfl
    · have hB' : dlvB l m = false := by simpa using hB
      simp only [evv, Nat.zero_add, if_true, if_false, decide_true, decide_false, Bool.false_eq_true, Bool.not_true, Bool.not_false, cO_e, e1, hr.1, e2, e3, m1, m2, hB', vOX_strip]
      exact Gets.here rfl
end Go.Proofs.YtjobinbeggkliabGreatDoor.Q
