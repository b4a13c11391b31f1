/- Laws of mailboxes. -/
import Derived.Test.YtjobinbeggkliaaDoorDeliverTwiceC96boxdrawsZ
namespace Go.Proofs.YtjobinbeggkliaaDoor.Q
open Go Go.AM
set_option linter.unusedSimpArgs false
set_option linter.unusedVariables false
set_option linter.unusedSectionVars false
theorem pc_tupX {f : FuncId} {args : List V} {a w : V} {H : VH} {k : Nat} {l : List Box} (e : cv f args [] = some (.tup [a, w], H)) (h1 : noPtrL args = true) (ha : data a = true) (ha2 : unobs1 H a = some a) (hw : VX w k H l) :
    ∃ o r, pc f args = some (.tup [a, .sl o r]) ∧ RoX r l := by
  rcases hw with ⟨o, r, rfl, hr⟩ | ⟨j, r, rfl, hj, hk, hne, hr⟩
  · exact ⟨o, r, pc_of e h1 (by simp only [data, dataL, ha, hr.2.1, Bool.and_self]), hr⟩
  · have hu := unobs1_obs hk hr.rows
    rw [hr.1] at hu
    exact ⟨false, vR eX l, pc_un e h1 (by simp only [data, dataL, ha, Bool.false_and, Bool.and_false]) (by simp only [unobs, unobsL, ha2, hu, Option.bind_some, Option.map_some]) (by simp only [data, dataL, ha, vR_data, Bool.and_self]), ⟨vR_strip _ _, vR_data _ _, vR_esz _ _⟩⟩
theorem pc_tupY {f : FuncId} {args : List V} {a w : V} {H : VH} {k : Nat} {l : List Box} (e : cv f args [] = some (.tup [w, a], H)) (h1 : noPtrL args = true) (ha : data a = true) (ha2 : unobs1 H a = some a) (hw : VX w k H l) :
    ∃ o r, pc f args = some (.tup [.sl o r, a]) ∧ RoX r l := by
  rcases hw with ⟨o, r, rfl, hr⟩ | ⟨j, r, rfl, hj, hk, hne, hr⟩
  · exact ⟨o, r, pc_of e h1 (by simp only [data, dataL, ha, hr.2.1, Bool.and_self]), hr⟩
  · have hu := unobs1_obs hk hr.rows
    rw [hr.1] at hu
    exact ⟨false, vR eX l, pc_un e h1 (by simp only [data, dataL, ha, Bool.false_and, Bool.and_false]) (by simp only [unobs, unobsL, ha2, hu, Option.bind_some, Option.map_some]) (by simp only [data, dataL, ha, vR_data, Bool.and_self]), ⟨vR_strip _ _, vR_data _ _, vR_esz _ _⟩⟩
theorem VX.strip {v : V} {k : Nat} {H : VH} {l : List Box} (h : VX v k H l) : VX (Go.AM.strip v) k H l := by
  rcases h with ⟨o, r, rfl, hr⟩ | ⟨j, r, rfl, h⟩
  · exact .inl ⟨false, stripLL r, rfl, ⟨by rw [stripLL_stripLL]; exact hr.1, by rw [hr.1]; exact vR_data _ _, by rw [hr.1]; exact vR_esz _ _⟩⟩
  · exact .inr ⟨j, r, rfl, h⟩
theorem VX.row (l : List Box) (k : Nat) (H : VH) : VX (.sl false (vR eX l)) k H l := .inl ⟨false, vR eX l, rfl, ⟨vR_strip _ _, vR_data _ _, vR_esz _ _⟩⟩
theorem VX.owr (l : List Box) (k : Nat) (H : VH) : VX (.sl true (vOX l)) k H l := .inl ⟨true, vOX l, rfl, RoX.own l⟩

theorem DrawDeliverMail_p (xs : Bs) : ∃ o r l m, pc id_spec_DrawDeliverMail [.sl false (vB xs)] = some (.tup [.sl o r, .agg (cO m)]) ∧ RoX r l ∧ DX 102 l ∧ TnM m := by
  suffices hg : Gets2 (cv id_spec_DrawDeliverMail [.sl false (vB xs)] []) (fun v H => ∃ l m w, v = .tup [w, .agg (cO m)] ∧ VX w 0 H l ∧ DX 102 l ∧ TnM m) by
    obtain ⟨v, H, e, l, m, w, rfl, hw, hl, hm⟩ := hg
    obtain ⟨o, r, e2, hr⟩ := pc_tupY e (by simp only [evv, Nat.zero_add, if_true, if_false, decide_true, decide_false, Bool.false_eq_true, Bool.not_true, Bool.not_false]) (by simp only [evv, Nat.zero_add, if_true, if_false, decide_true, decide_false, Bool.false_eq_true, Bool.not_true, Bool.not_false, cO_e]) rfl hw
    exact ⟨o, r, l, m, e2, hr, hl, hm⟩
  refine Gets2.of ?_
  rw [spec_DrawDeliverMail_eq]
  refine (Open_g (xs := xs)).bind ?_
  rintro _ H0 ⟨rfl, R0⟩
  simp only [evv, Nat.zero_add, if_true, if_false, decide_true, decide_false, Bool.false_eq_true, Bool.not_true, Bool.not_false]
  refine (l11Draw_g R0 (by omega)).bind ?_
  rintro _ H1 ⟨a, rfl, ha, R1⟩
  simp only [evv, Nat.zero_add, if_true, if_false, decide_true, decide_false, Bool.false_eq_true, Bool.not_true, Bool.not_false, vOX_strip]
  refine (l11Wrong_g R1 (by omega) (VX.row a _ _) ha (by omega)).bind ?_
  rintro w H2 ⟨l, hw, hl, R2⟩
  simp only [evv, Nat.zero_add, if_true, if_false, decide_true, decide_false, Bool.false_eq_true, Bool.not_true, Bool.not_false]
  refine (DrawMail_f (Rf.refl R2) (by omega)).bind ?_
  rintro _ H3 ⟨m, rfl, hm, hml, R3⟩
  simp only [evv, Nat.zero_add, if_true, if_false, decide_true, decide_false, Bool.false_eq_true, Bool.not_true, Bool.not_false, cO_strip]
  refine (WrongMail_f R3 (by omega) hm (by omega)).bind ?_
  rintro _ H4 ⟨m2, rfl, hm2, -, R4⟩
  simp only [evv, Nat.zero_add, if_true, if_false, decide_true, decide_false, Bool.false_eq_true, Bool.not_true, Bool.not_false, cO_e]
  exact Gets.here ⟨l, m2, w, rfl, hw.fr R4, hl.le (by omega), hm2⟩

/-- What comes of mails that come to mailboxes. -/
theorem dl1_paths (l : List Box) (m : Mail) (t : Bs) : (dl1 l m t).1.map Box.path = l.map Box.path := by
  apply List.ext_getElem
  · simp [dl1_len]
  · intro i h1 h2
    simp only [List.length_map] at h1 h2
    have := dl1_path l m t i
    rw [boxAt_get h1, boxAt_get h2] at this
    simp only [List.getElem_map]; exact this
theorem heldN_set : ∀ {l : List Box} {i : Nat} {b : Box} (h : i < l.length), heldN (l.set i b) + l[i].mails.length = heldN l + b.mails.length
  | [], i, b, h => by simp at h
  | x :: l, 0, b, h => by simp [heldN]; omega
  | x :: l, i + 1, b, h => by
    have := heldN_set (l := l) (i := i) (b := b) (by simpa using h)
    simp only [heldN, List.set_cons_succ, List.map_cons, List.sum_cons, List.getElem_cons_succ] at this ⊢
    omega
def c250 (cs : List Int) : Nat := (cs.filter fun c => decide (c = 250)).length
theorem c250_app (a b : List Int) : c250 (a ++ b) = c250 a + c250 b := by simp [c250, List.filter_append]
theorem dl1_held (l : List Box) (m : Mail) (t : Bs) : heldN (dl1 l m t).1 = heldN l + c250 [(dl1 l m t).2] := by
  unfold dl1
  split
  · rename_i ha
    have hx := findIdx_isP ha
    split
    · rfl
    · rw [boxAt_get hx]
      have := heldN_set (b := ⟨l[l.findIdx (isP t)].path, l[l.findIdx (isP t)].mails ++ [put1 m t]⟩) hx
      simp only [List.length_append, List.length_singleton] at this
      have e250 : c250 [(250 : Int)] = 1 := rfl
      simp only [e250]
      omega
  · rfl
theorem dlN_held (m : Mail) : ∀ (tos : List Bs) (s : List Box × List Int), heldN (dlN m tos s).1 + c250 s.2 = heldN s.1 + c250 (dlN m tos s).2
  | [], s => rfl
  | t :: tos, s => by
    have ih := dlN_held m tos (dlS m s t)
    have h1 := dl1_held s.1 m t
    simp only [dlN, List.foldl_cons] at ih ⊢
    simp only [dlS, c250_app] at ih ⊢
    omega
theorem boxAt_set {l : List Box} {i j : Nat} {b : Box} (h : i < l.length) : boxAt (l.set i b) j = if j = i then b else boxAt l j := by
  by_cases e : j = i
  · subst e
    rw [if_pos rfl, boxAt_get (by simpa using h), List.getElem_set_self]
  · rw [if_neg e]
    unfold boxAt
    rw [List.getD_eq_getElem?_getD, List.getElem?_set_ne (by omega), ← List.getD_eq_getElem?_getD]
theorem put1_ok {m : Mail} {t : Bs} {a b : Int} (h : mailT m 1 30 = true) (ht : t ∈ m.to) : mailT (put1 m t) 1 30 = true := by
  unfold mailT at h ⊢
  simp only [Bool.and_eq_true, decide_eq_true_eq, Bool.not_eq_true', List.any_eq_false] at h ⊢
  obtain ⟨h1, h2, h3, h4, h5, h6⟩ := h
  refine ⟨h1, by simp [put1], by simp [put1], fun x hx => ?_, h5, h6⟩
  simp [put1] at hx
  subst hx; exact h4 x ht
theorem dl1_valid {l : List Box} {m : Mail} {t : Bs} (h : boxesT l = true) (hm : mailT m 1 30 = true) (ht : t ∈ m.to) : boxesT (dl1 l m t).1 = true := by
  have hlen := dl1_len l m t
  unfold boxesT at h ⊢
  rw [Bool.and_eq_true, decide_eq_true_eq, Bool.not_eq_true', List.any_eq_false] at h ⊢
  refine ⟨by omega, fun i hi => ?_⟩
  have hi' : i < l.length := by rw [hlen] at hi; simpa using hi
  have hb := h.2 i (by simpa using hi')
  have hp1 := dl1_path l m t i
  have hp2 := dl1_path l m t (i - 1)
  unfold badX at hb ⊢
  rw [hp1, hp2]
  simp only [Bool.or_eq_true, not_or, Bool.not_eq_true, decide_eq_true_eq, decide_eq_false_iff_not] at hb ⊢
  refine ⟨hb.1, ?_, hb.2.2.1, ?_⟩
  · unfold dl1
    split
    · rename_i ha
      have hx := findIdx_isP ha
      split
      · exact hb.2.1
      · rename_i h4
        show ¬ (4 < (boxAt (l.set _ _) i).mails.length)
        rw [boxAt_set hx]
        split
        · rename_i e; subst e
          have := hb.2.1
          simp; omega
        · exact hb.2.1
    · exact hb.2.1
  · unfold dl1
    split
    · rename_i ha
      have hx := findIdx_isP ha
      split
      · exact hb.2.2.2
      · show ((boxAt (l.set _ _) i).mails.any fun m => !mailT m 1 30) = false
        rw [boxAt_set hx]
        split
        · rename_i e; subst e
          have := hb.2.2.2
          rw [List.any_append, this]
          simp [put1_ok (a := 0) (b := 0) hm ht]
        · exact hb.2.2.2
    · exact hb.2.2.2
theorem dlN_valid {m : Mail} (hm : mailT m 1 30 = true) : ∀ {tos : List Bs} {s : List Box × List Int}, boxesT s.1 = true → (∀ t ∈ tos, t ∈ m.to) → boxesT (dlN m tos s).1 = true
  | [], s, h, _ => h
  | t :: tos, s, h, ht => by
    have := dlN_valid hm (tos := tos) (s := dlS m s t) (dl1_valid h hm (ht t (by simp))) (fun u hu => ht u (by simp [hu]))
    simpa [dlN] using this

theorem path_any {l k : List Box} (h : l.map Box.path = k.map Box.path) (p : Bs) : l.any (isP p) = k.any (isP p) := by
  have e : ∀ l : List Box, l.any (isP p) = (l.map Box.path).any (fun q => decide (q = p)) := fun l => by rw [List.any_map]; rfl
  rw [e, e, h]
theorem path_idx {l k : List Box} (h : l.map Box.path = k.map Box.path) (p : Bs) : l.findIdx (isP p) = k.findIdx (isP p) := by
  have e : ∀ l : List Box, l.findIdx (isP p) = (l.map Box.path).findIdx (fun q => decide (q = p)) := fun l => by rw [List.findIdx_map]; rfl
  rw [e, e, h]
theorem dl1_mono (l : List Box) (m : Mail) (t : Bs) (j : Nat) : (boxAt l j).mails.length ≤ (boxAt (dl1 l m t).1 j).mails.length := by
  unfold dl1
  split
  · rename_i ha
    have hx := findIdx_isP ha
    split
    · exact Nat.le_refl _
    · simp only
      rw [boxAt_set hx]
      split
      · rename_i e; subst e; simp
      · exact Nat.le_refl _
  · exact Nat.le_refl _
theorem dl1_self (l : List Box) (m : Mail) (t : Bs) (h : l.any (isP t) = true) : min 4 ((boxAt l (l.findIdx (isP t))).mails.length + 1) ≤ (boxAt (dl1 l m t).1 (l.findIdx (isP t))).mails.length := by
  have hx := findIdx_isP h
  unfold dl1
  rw [if_pos h]
  split
  · rename_i h4; simp only; omega
  · simp only
    rw [boxAt_set hx, if_pos rfl]
    simp; omega
theorem dlN_paths (m : Mail) : ∀ (tos : List Bs) (s : List Box × List Int), (dlN m tos s).1.map Box.path = s.1.map Box.path
  | [], s => rfl
  | t :: tos, s => by
    have := dlN_paths m tos (dlS m s t)
    simp only [dlN, List.foldl_cons] at this ⊢
    rw [this]
    exact dl1_paths s.1 m t
theorem dlN_mono (m : Mail) (j : Nat) : ∀ (tos : List Bs) (s : List Box × List Int), (boxAt s.1 j).mails.length ≤ (boxAt (dlN m tos s).1 j).mails.length
  | [], s => Nat.le_refl _
  | t :: tos, s => by
    have := dlN_mono m j tos (dlS m s t)
    simp only [dlN, List.foldl_cons] at this ⊢
    exact Nat.le_trans (dl1_mono s.1 m t j) this
theorem dlN_self (m : Mail) (u : Bs) : ∀ (tos : List Bs) (s : List Box × List Int), u ∈ tos → s.1.any (isP u) = true →
    min 4 ((boxAt s.1 (s.1.findIdx (isP u))).mails.length + 1) ≤ (boxAt (dlN m tos s).1 (s.1.findIdx (isP u))).mails.length
  | [], s, h, _ => by simp at h
  | t :: tos, s, h, ha => by
    have hp := dl1_paths s.1 m t
    by_cases e : u = t
    · subst e
      have h1 := dl1_self s.1 m u ha
      have h2 := dlN_mono m (s.1.findIdx (isP u)) tos (dlS m s u)
      simp only [dlN, List.foldl_cons] at h2 ⊢
      exact Nat.le_trans h1 h2
    · have hm : u ∈ tos := by
        rcases List.mem_cons.1 h with h | h
        · exact absurd h e
        · exact h
      have h1 := dlN_self m u tos (dlS m s t) hm (by show (dl1 s.1 m t).1.any _ = true; rw [path_any hp]; exact ha)
      have h2 := dl1_mono s.1 m t (s.1.findIdx (isP u))
      have e2 : (dlS m s t).1.findIdx (isP u) = s.1.findIdx (isP u) := path_idx hp u
      rw [e2] at h1
      simp only [dlN, List.foldl_cons] at h1 ⊢
      have e3 : (boxAt (dlS m s t).1 (s.1.findIdx (isP u))).mails.length = (boxAt (dl1 s.1 m t).1 (s.1.findIdx (isP u))).mails.length := rfl
      omega
def LevX (j : Nat) (l : List Box) (tos : List Bs) : Prop := ∀ u ∈ tos, l.any (isP u) = true → min 4 j ≤ (boxAt l (l.findIdx (isP u))).mails.length
theorem LevX.next {j : Nat} {l : List Box} {m : Mail} (h : LevX j l m.to) : LevX (j + 1) (dlN m m.to (l, [])).1 m.to := fun u hu ha => by
  have hp := dlN_paths m m.to (l, [])
  rw [path_any hp] at ha
  rw [path_idx hp]
  have h1 := dlN_self m u m.to (l, []) hu ha
  have h2 := h u hu ha
  simp only at h1 ⊢
  omega
theorem dlN_full (m : Mail) : ∀ (tos : List Bs) (l : List Box) (cs : List Int), (∀ u ∈ tos, l.any (isP u) = true → (boxAt l (l.findIdx (isP u))).mails.length = 4) → (∀ c ∈ cs, c ≠ 250) →
    (dlN m tos (l, cs)).1 = l ∧ ∀ c ∈ (dlN m tos (l, cs)).2, c ≠ 250
  | [], l, cs, _, hc => ⟨rfl, hc⟩
  | t :: tos, l, cs, h, hc => by
    have e : dl1 l m t = (l, if l.any (isP t) = true then 452 else 550) := by
      unfold dl1
      split
      · rename_i ha
        rw [if_pos (h t (by simp) ha)]
      · rfl
    have ih := dlN_full m tos l (cs ++ [if l.any (isP t) = true then 452 else 550]) (fun u hu => h u (by simp [hu])) (fun c hcc => by
      rcases List.mem_append.1 hcc with hcc | hcc
      · exact hc c hcc
      · simp at hcc; subst hcc; split <;> decide)
    simp only [dlN, List.foldl_cons, dlS, e] at ih ⊢
    exact ih
theorem valid_le {l : List Box} (h : boxesT l = true) (j : Nat) : (boxAt l j).mails.length ≤ 4 := by
  by_cases hj : j < l.length
  · unfold boxesT at h
    rw [Bool.and_eq_true, Bool.not_eq_true', List.any_eq_false] at h
    have := h.2 j (by simpa using hj)
    unfold badX at this
    simp only [Bool.or_eq_true, not_or, decide_eq_true_eq] at this
    omega
  · unfold boxAt
    rw [List.getD_eq_getElem?_getD, List.getElem?_eq_none (by omega)]; simp

theorem FnDeliverTwice_v (u : V) (h : HasArg (.sl (.int .u8)) u) : ∃ H, cv id_laws_FnDeliverTwice [u] [] = some (.bool true, H) := by
  obtain ⟨xs, rfl⟩ := argB h
  suffices hg : Gets (cv id_laws_FnDeliverTwice [.sl false (vB xs)] []) fun r => r.1 = .bool true by
    obtain ⟨⟨v, H⟩, e, h⟩ := hg
    cases h
    exact ⟨H, e⟩
  obtain ⟨o, r, l, m, e1, hr, hl, hm⟩ := DrawDeliverMail_p xs
  have sl := hl.sm (by omega)
  obtain ⟨o2, e2⟩ := impl_Deliver_p l m sl hl.path hm.sm hm.to1
  have e3 := spec_DeliverMail_c l m sl hl.path hm.sm hm.to1
  have hok := (dlvR_sm sl hl.path hm.sm hm.to1).sm (by omega)
  have m1 := impl_BoxesSame_c (dlvR l m).1 (dlvR l m).1 hok
  rw [decide_eq_true rfl] at m1
  have hcl : ∀ k : List Box, (dlvR k m).2.length ≤ 1000 := fun k => by
    unfold dlvR
    by_cases hb : (boxesT k && mailT m 1 30) = true
    · rw [hb]
      rw [Bool.and_eq_true] at hb
      have := mailT_to hb.2
      have := (dlN_len m m.to (k, [])).1
      simp at this ⊢; omega
    · have : (boxesT k && mailT m 1 30) = false := by simpa using hb
      rw [this]; simp
  have m2 := mwInts_c (dlvR l m).2 (dlvR l m).2 (by have := hcl l; omega)
  rw [decide_eq_true rfl] at m2
  simp only [cM_e] at e2 e3
  rw [laws_FnDeliverTwice_eq]
  simp only [evv, Nat.zero_add, if_true, if_false, decide_true, decide_false, Bool.false_eq_true, Bool.not_true, Bool.not_false, decide_eq_true_eq]
  refine Gets.ite (fun h => ?_) (fun h => ?_)
  · exact Gets.here rfl
  · by_cases hB : dlvB l m = true
    · have hbm : boxesT l = true ∧ mailT m 1 30 = true := by unfold dlvB at hB; rwa [Bool.and_eq_true] at hB
      have step : ∀ x : List Box, boxesT x = true → dlvB x m = true ∧ dlvR x m = dlN m m.to (x, []) ∧ boxesT (dlvR x m).1 = true := fun x hx => by
        have hB : dlvB x m = true := by unfold dlvB; rw [hx, hbm.2]; rfl
        have hR : dlvR x m = dlN m m.to (x, []) := by unfold dlvR; unfold dlvB at hB; rw [hB]; rfl
        exact ⟨hB, hR, by rw [hR]; exact dlN_valid hbm.2 (s := (x, [])) hx (fun t ht => ht)⟩
      simp only [evv, Nat.zero_add, if_true, if_false, decide_true, decide_false, Bool.false_eq_true, Bool.not_true, Bool.not_false, cO_e, e1, hr.1, e2, e3, m1, m2, hB, vOX_strip]
      obtain ⟨-, hR0, hv0⟩ := step l hbm.1
      refine Gets.loop2 (I := fun n st H => ∃ (i : Nat) (x : List Box), n = 5 - i ∧ i ≤ 5 ∧ boxesT x = true ∧ DX (120 + 10 * i) x ∧ LevX (i + 1) x m.to ∧ st = [.sl false (vR eX x), .int .i64 (i : Nat), .str m.from_, .sl false (vT m.to), .sl false (vT m.lines)])
        (P := fun q vs H => ∃ x : List Box, q = 0 ∧ boxesT x = true ∧ DX 170 x ∧ LevX 6 x m.to ∧ vs = [.sl false (vR eX x), .str m.from_, .sl false (vT m.to), .sl false (vT m.lines)]) (n := 5) ?_
        ⟨0, (dlvR l m).1, by omega, by omega, hv0, (hl.dlv hm).le (by omega), ?_, rfl⟩ ?_
      · rintro n st H ⟨i, x, rfl, hi, hx, hdx, hlev, rfl⟩
        rw [laws_FnDeliverTwice_l9_eq]
        by_cases hlt : i ≤ 4
        · obtain ⟨hBx, hRx, hvx⟩ := step x hx
          obtain ⟨o3, f2⟩ := impl_Deliver_p x m (hdx.sm (by omega)) hdx.path hm.sm hm.to1
          simp only [cM_e] at f2
          have e5 : vBinV (.int .i64) .add (.int .i64 (i : Int)) (.int .i64 1) = some (.int .i64 ((i + 1 : Nat) : Int)) := n_addN _ i 1 (by omega)
          simp only [evv, Nat.zero_add, if_true, if_false, decide_true, decide_false, Bool.false_eq_true, Bool.not_true, Bool.not_false, f2, hBx, e5, show ((i : Int) ≤ 4) from by omega]
          refine ⟨_, rfl, .inr ⟨rfl, 5 - (i + 1), by omega, i + 1, (dlvR x m).1, rfl, by omega, hvx, (hdx.dlv hm).le (by omega), ?_, rfl⟩⟩
          rw [hRx]; exact hlev.next
        · have : i = 5 := by omega
          subst this
          simp only [evv, Nat.zero_add, if_true, if_false, decide_true, decide_false, Bool.false_eq_true, Bool.not_true, Bool.not_false, show ¬ (((5 : Nat) : Int) ≤ 4) from by omega]
          exact ⟨_, rfl, .inl ⟨0, rfl, x, rfl, hx, hdx.le (by omega), hlev, rfl⟩⟩
      · rw [hR0]
        have : LevX 0 l m.to := fun u hu ha => by simp
        exact this.next
      · rintro _ _ H ⟨x, rfl, hx, hdx, hlev, rfl⟩
        obtain ⟨hBx, hRx, hvx⟩ := step x hx
        obtain ⟨o3, f2⟩ := impl_Deliver_p x m (hdx.sm (by omega)) hdx.path hm.sm hm.to1
        simp only [cM_e] at f2
        have hfull := dlN_full m m.to x [] (fun u hu ha => by have := hlev u hu ha; have := valid_le hx (x.findIdx (isP u)); omega) (by simp)
        rw [← hRx] at hfull
        have hcx := hcl x
        have s1 := impl_BoxesSame_c (dlvR x m).1 x (by rw [hfull.1]; exact hdx.sm (by omega))
        rw [hfull.1, decide_eq_true rfl] at s1
        rw [hfull.1] at f2
        simp only [evv, Nat.zero_add, if_true, if_false, decide_true, decide_false, Bool.false_eq_true, Bool.not_true, Bool.not_false, f2, hBx]
        generalize (dlvR x m).2 = cs at *
        refine Gets.loop2 (I := fun n st H => ∃ i : Nat, n = cs.length - i ∧ i ≤ cs.length ∧ st = [.sl false (vR eX x), .sl false (vR eX x), .sl false (vI .i64 cs), .bool true, .int .i64 (i : Nat)])
          (P := fun q vs H => q = 0 ∧ vs = [.sl false (vR eX x), .sl false (vR eX x), .bool true]) (n := cs.length) ?_ ⟨0, by omega, by omega, rfl⟩ ?_
        · rintro n st H ⟨i, rfl, hi, rfl⟩
          rw [laws_FnDeliverTwice_l17_eq]
          by_cases hlt : i < cs.length
          · have i1 := vI_idx false .i64 cs .i64 i hlt
            have e5 : vBinV (.int .i64) .add (.int .i64 (i : Int)) (.int .i64 1) = some (.int .i64 ((i + 1 : Nat) : Int)) := n_addN _ i 1 (by omega)
            have hne := hfull.2 cs[i] (List.getElem_mem hlt)
            simp only [evv, Nat.zero_add, if_true, if_false, decide_true, decide_false, Bool.false_eq_true, Bool.not_true, Bool.not_false, i1, hne, e5, show ((i : Int) < (cs.length : Int)) from by omega]
            exact ⟨_, rfl, .inr ⟨rfl, cs.length - (i + 1), by omega, i + 1, rfl, by omega, rfl⟩⟩
          · have : i = cs.length := by omega
            subst this
            simp only [evv, Nat.zero_add, if_true, if_false, decide_true, decide_false, Bool.false_eq_true, Bool.not_true, Bool.not_false, show ¬ ((cs.length : Int) < (cs.length : Int)) from by omega]
            exact ⟨_, rfl, .inl ⟨0, rfl, rfl, rfl⟩⟩
        · rintro _ _ H ⟨rfl, rfl⟩
          simp only [evv, Nat.zero_add, if_true, if_false, decide_true, decide_false, Bool.false_eq_true, Bool.not_true, Bool.not_false, s1]
          exact Gets.here rfl
    · have hB' : dlvB l m = false := by simpa using hB
      simp only [evv, Nat.zero_add, if_true, if_false, decide_true, decide_false, Bool.false_eq_true, Bool.not_true, Bool.not_false, cO_e, e1, hr.1, e2, e3, m1, m2, hB', vOX_strip]
      exact Gets.here rfl

end Go.Proofs.YtjobinbeggkliaaDoor.Q
