/- Contracts: mails spoken as lines. -/
import Derived.Test.YtemfiddemagflaaDoorMailValidC60hopsZ
namespace Go.Proofs.YtemfiddemagflaaDoor.Q
open Go Go.AM
set_option linter.unusedSimpArgs false
set_option linter.unusedVariables false
def stuffT (l : Bs) : Bs := if preT l [46] = true then 46 :: l else l
def rcptT (t : Bs) : Bs := [82, 67, 80, 84, 32, 84, 79, 58, 60] ++ t ++ [62]
def fromL (f : Bs) : Bs := [77, 65, 73, 76, 32, 70, 82, 79, 77, 58, 60] ++ f ++ [62]
def headL (m : Mail) : List Bs := [fromL m.from_] ++ m.to.map rcptT ++ [[68, 65, 84, 65]]
def spokeB (m : Mail) : Bool := mailT m 1 30 && !(m.lines.any fun l => !textT (stuffT l))
def spokeL (m : Mail) : List Bs := if spokeB m = true then headL m ++ m.lines.map stuffT ++ [[46]] else []
theorem stuffT_len (l : Bs) : (stuffT l).length ≤ l.length + 1 := by unfold stuffT; split <;> simp
theorem wr_mem {p : Int → Bool} {s : Bs} (h : ∀ b ∈ s, p b.toNat = false) : (s.any fun b => p b.toNat) = false := by
  rw [List.any_eq_false]; intro b hb; simp [h b hb]
theorem loc_text {s : Bs} (h : locT s = true) : (∀ b ∈ s, wrB b.toNat = false) ∧ s.length ≤ 30 := by
  simp only [locT, Bool.and_eq_true, Bool.not_eq_true', List.any_eq_false, decide_eq_true_eq] at h
  refine ⟨fun b hb => ?_, h.1⟩
  rcases splitB_mem 46 s b hb with rfl | ⟨t, h1, h2⟩
  · rfl
  · have h3 : atomT t = true := by have := h.2 t h1; simpa using this
    simp only [atomT, Bool.and_eq_true, List.all_eq_true] at h3
    have h4 := h3.2 b h2
    simp only [atomB, decide_eq_true_eq] at h4
    exact decide_eq_false (by omega)
theorem dom_text {s : Bs} (h : domT s = true) : (∀ b ∈ s, wrB b.toNat = false) ∧ s.length ≤ 40 := by
  simp only [domT, Bool.and_eq_true, Bool.not_eq_true', List.any_eq_false, decide_eq_true_eq] at h
  refine ⟨fun b hb => ?_, h.1⟩
  rcases splitB_mem 46 s b hb with rfl | ⟨t, h1, h2⟩
  · rfl
  · have h3 : labT t = true := by have := h.2 t h1; simpa using this
    simp only [labT, Bool.and_eq_true, List.all_eq_true] at h3
    have h4 := h3.2 b h2
    simp only [labB, decide_eq_true_eq] at h4
    exact decide_eq_false (by omega)
theorem path_text {s : Bs} (h : pathT s = true) : (∀ b ∈ s, wrB b.toNat = false) ∧ s.length ≤ 71 := by
  simp only [pathT, Bool.and_eq_true, decide_eq_true_eq] at h
  have hc := path_cut h.1
  have h1 := loc_text h.2.1
  have h2 := dom_text h.2.2
  constructor
  · intro b hb
    rw [hc] at hb
    rcases List.mem_append.1 hb with hb | hb
    · rcases List.mem_append.1 hb with hb | hb
      · exact h1.1 b hb
      · simp at hb; subst hb; rfl
    · exact h2.1 b hb
  · have := congrArg List.length hc
    simp at this; omega
theorem text_of {s : Bs} (h : ∀ b ∈ s, wrB b.toNat = false) (hl : s.length ≤ 200) : textT s = true := by
  unfold textT
  rw [wr_mem h, decide_eq_true hl]; rfl
theorem text_wrap {a s z : Bs} (ha : (a.all fun b => !wrB b.toNat) = true) (hz : (z.all fun b => !wrB b.toNat) = true) (h : ∀ b ∈ s, wrB b.toNat = false) (hl : a.length + s.length + z.length ≤ 200) : textT (a ++ s ++ z) = true := by
  refine text_of (fun b hb => ?_) (by simp; omega)
  rcases List.mem_append.1 hb with hb | hb
  · rcases List.mem_append.1 hb with hb | hb
    · have := List.all_eq_true.1 ha b hb; simpa using this
    · exact h b hb
  · have := List.all_eq_true.1 hz b hb; simpa using this
theorem head_text {m : Mail} (h : mailT m 1 30 = true) : ((headL m).any fun t => !textT t) = false := by
  simp only [mailT, Bool.and_eq_true, Bool.not_eq_true', List.any_eq_false, fromT, Bool.or_eq_true, decide_eq_true_eq] at h
  rw [List.any_eq_false]
  intro t ht
  have key : textT t = true := by
    simp only [headL, List.mem_append, List.mem_singleton, List.mem_map] at ht
    rcases ht with (rfl | ⟨p, hp, rfl⟩) | rfl
    · rcases h.1 with h0 | h0
      · rw [h0]; rfl
      · have := path_text h0
        exact text_wrap (by decide) (by decide) this.1 (by simp; omega)
    · have h0 : pathT p = true := by have := h.2.2.2.1 p hp; simpa using this
      have := path_text h0
      exact text_wrap (by decide) (by decide) this.1 (by simp; omega)
    · rfl
  simp [key]
theorem sl_app {l k : List Bs} (h : l.length + k.length ≤ 4000000) : appV false 1 16 (vT l) (.sl true (vT k)) = some (.sl true (vT (l ++ k))) := by
  have := v_app 1 16 (vT l) true (vT k) (vT_esz l) (vT_esz k) (by rw [vT_len, vT_len]; omega)
  rw [vT_app] at this
  exact this
theorem sl_app1 {l : List Bs} (s : Bs) (h : l.length + 1 ≤ 4000000) : appV false 1 16 (vT l) (.sl true [[.str s]]) = some (.sl true (vT (l ++ [s]))) := sl_app (k := [s]) (by simpa using h)

theorem stuffed_c (s : Bs) (hs : s.length ≤ 1000000000) : qc id_impl_stuffed [.str s] = some (.str (stuffT s)) := by
  have e1 := HasPrefix_c s [46] hs
  have a1 := t_add .str [46] s (by simp; omega)
  refine qc_of (H := []) ?_ (by simp only [st_bool, st_int, st_str, st_nilp, st_ptr, st_elt, st_fn, st_sl, st_agg, st_tup, stL_nil, stL_cons, stLL_nil, stLL_cons, strip_strip, stripL_stripL, stripLL_stripLL, fz_bool, fz_int, fz_str, fz_sl, fz_agg, fz_fn0, fz_fn, fz_ptr, fz_elt, fz1_ptr, map_nil', map_cons', app_nil', app_cons', np_bool, np_int, np_str, np_sl, np_agg, np_elt, np_fn, npL_nil, npL_cons, npLL_nil, npLL_cons, d_bool, d_int, d_str, d_sl, d_agg, d_tup, dL_nil, dL_cons, dLL_nil, dLL_cons, sc_bool, sc_int, sc_str, sc_tup, s1_bool, s1_int, s1_str, al_nil, al_cons, an_tt, bind_s, id_s, if_bool, if_t, if_f, in_0, in_1, in_2, in_3, in_4, gt_0, gt_1, gt_2, gt_3, gt_4, gt_5, gt_6, gt_7, gt_8, gt_9, gt_10, gd_z, gd_1, gd_2, gd_3, gd_4, gd_5, gd_6, gd_7, gd_8, gd_9, gt_11, gt_12, gt_13, gt_14, gt_15, gd_10, gd_11, gd_12, gd_13, gd_14, gd_15, n_lss, n_leq, n_gtr, n_geq, n_eql, n_neq, n_not, b_eql, b_neq, t_eql, t_neq, t_len, v_len, t_str, ld_elt, extB_index, extB_count, v_nilf, v_nilp, v_nile, v_offp, v_offe, o_int, o_bool, o_str, o_sl, o_ptr, o_fn, ow_t, cl_fn, ex_0, ex_1, ex_2, sa_0, sa_1, sa_2, vT_len, vB_len, vI_len, vT_strip, vB_strip, vI_strip, vT_np, vB_np, vI_np, vT_data, vB_data, vI_data, vT_esz, vB_esz, vI_esz, ag_2, ag_3, ag_6, ag_7, le_2, le_3, le_6, le_at0, le_at1, le_at2, em_e, es_e, ex_e, cM_e, cS_e, cX_e, vR_len, vR_strip, vR_np, vR_data, vR_esz3, vR_esz2, ob_len, st_obs, np_obs, Nat.zero_add, if_true, if_false, decide_true, decide_false, Bool.false_eq_true, Bool.not_true, Bool.not_false]) rfl
  show cv _ _ _ = _
  rw [impl_stuffed_eq]
  unfold stuffT
  by_cases h : preT s [46] = true
  · simp only [st_bool, st_int, st_str, st_nilp, st_ptr, st_elt, st_fn, st_sl, st_agg, st_tup, stL_nil, stL_cons, stLL_nil, stLL_cons, strip_strip, stripL_stripL, stripLL_stripLL, fz_bool, fz_int, fz_str, fz_sl, fz_agg, fz_fn0, fz_fn, fz_ptr, fz_elt, fz1_ptr, map_nil', map_cons', app_nil', app_cons', np_bool, np_int, np_str, np_sl, np_agg, np_elt, np_fn, npL_nil, npL_cons, npLL_nil, npLL_cons, d_bool, d_int, d_str, d_sl, d_agg, d_tup, dL_nil, dL_cons, dLL_nil, dLL_cons, sc_bool, sc_int, sc_str, sc_tup, s1_bool, s1_int, s1_str, al_nil, al_cons, an_tt, bind_s, id_s, if_bool, if_t, if_f, in_0, in_1, in_2, in_3, in_4, gt_0, gt_1, gt_2, gt_3, gt_4, gt_5, gt_6, gt_7, gt_8, gt_9, gt_10, gd_z, gd_1, gd_2, gd_3, gd_4, gd_5, gd_6, gd_7, gd_8, gd_9, gt_11, gt_12, gt_13, gt_14, gt_15, gd_10, gd_11, gd_12, gd_13, gd_14, gd_15, n_lss, n_leq, n_gtr, n_geq, n_eql, n_neq, n_not, b_eql, b_neq, t_eql, t_neq, t_len, v_len, t_str, ld_elt, extB_index, extB_count, v_nilf, v_nilp, v_nile, v_offp, v_offe, o_int, o_bool, o_str, o_sl, o_ptr, o_fn, ow_t, cl_fn, ex_0, ex_1, ex_2, sa_0, sa_1, sa_2, vT_len, vB_len, vI_len, vT_strip, vB_strip, vI_strip, vT_np, vB_np, vI_np, vT_data, vB_data, vI_data, vT_esz, vB_esz, vI_esz, ag_2, ag_3, ag_6, ag_7, le_2, le_3, le_6, le_at0, le_at1, le_at2, em_e, es_e, ex_e, cM_e, cS_e, cX_e, vR_len, vR_strip, vR_np, vR_data, vR_esz3, vR_esz2, ob_len, st_obs, np_obs, Nat.zero_add, if_true, if_false, decide_true, decide_false, Bool.false_eq_true, Bool.not_true, Bool.not_false, e1, h, a1]
    try rfl
  · simp only [st_bool, st_int, st_str, st_nilp, st_ptr, st_elt, st_fn, st_sl, st_agg, st_tup, stL_nil, stL_cons, stLL_nil, stLL_cons, strip_strip, stripL_stripL, stripLL_stripLL, fz_bool, fz_int, fz_str, fz_sl, fz_agg, fz_fn0, fz_fn, fz_ptr, fz_elt, fz1_ptr, map_nil', map_cons', app_nil', app_cons', np_bool, np_int, np_str, np_sl, np_agg, np_elt, np_fn, npL_nil, npL_cons, npLL_nil, npLL_cons, d_bool, d_int, d_str, d_sl, d_agg, d_tup, dL_nil, dL_cons, dLL_nil, dLL_cons, sc_bool, sc_int, sc_str, sc_tup, s1_bool, s1_int, s1_str, al_nil, al_cons, an_tt, bind_s, id_s, if_bool, if_t, if_f, in_0, in_1, in_2, in_3, in_4, gt_0, gt_1, gt_2, gt_3, gt_4, gt_5, gt_6, gt_7, gt_8, gt_9, gt_10, gd_z, gd_1, gd_2, gd_3, gd_4, gd_5, gd_6, gd_7, gd_8, gd_9, gt_11, gt_12, gt_13, gt_14, gt_15, gd_10, gd_11, gd_12, gd_13, gd_14, gd_15, n_lss, n_leq, n_gtr, n_geq, n_eql, n_neq, n_not, b_eql, b_neq, t_eql, t_neq, t_len, v_len, t_str, ld_elt, extB_index, extB_count, v_nilf, v_nilp, v_nile, v_offp, v_offe, o_int, o_bool, o_str, o_sl, o_ptr, o_fn, ow_t, cl_fn, ex_0, ex_1, ex_2, sa_0, sa_1, sa_2, vT_len, vB_len, vI_len, vT_strip, vB_strip, vI_strip, vT_np, vB_np, vI_np, vT_data, vB_data, vI_data, vT_esz, vB_esz, vI_esz, ag_2, ag_3, ag_6, ag_7, le_2, le_3, le_6, le_at0, le_at1, le_at2, em_e, es_e, ex_e, cM_e, cS_e, cX_e, vR_len, vR_strip, vR_np, vR_data, vR_esz3, vR_esz2, ob_len, st_obs, np_obs, Nat.zero_add, if_true, if_false, decide_true, decide_false, Bool.false_eq_true, Bool.not_true, Bool.not_false, e1, h]

theorem impl_SpeakMail_1_c (s : Bs) (hs : s.length ≤ 1000000000) : qc id_impl_SpeakMail_1 [.str s] = some (.bool (!textT s)) := by
  have e1 := TextValid_c s hs
  refine qc_of (H := []) ?_ (by simp only [st_bool, st_int, st_str, st_nilp, st_ptr, st_elt, st_fn, st_sl, st_agg, st_tup, stL_nil, stL_cons, stLL_nil, stLL_cons, strip_strip, stripL_stripL, stripLL_stripLL, fz_bool, fz_int, fz_str, fz_sl, fz_agg, fz_fn0, fz_fn, fz_ptr, fz_elt, fz1_ptr, map_nil', map_cons', app_nil', app_cons', np_bool, np_int, np_str, np_sl, np_agg, np_elt, np_fn, npL_nil, npL_cons, npLL_nil, npLL_cons, d_bool, d_int, d_str, d_sl, d_agg, d_tup, dL_nil, dL_cons, dLL_nil, dLL_cons, sc_bool, sc_int, sc_str, sc_tup, s1_bool, s1_int, s1_str, al_nil, al_cons, an_tt, bind_s, id_s, if_bool, if_t, if_f, in_0, in_1, in_2, in_3, in_4, gt_0, gt_1, gt_2, gt_3, gt_4, gt_5, gt_6, gt_7, gt_8, gt_9, gt_10, gd_z, gd_1, gd_2, gd_3, gd_4, gd_5, gd_6, gd_7, gd_8, gd_9, gt_11, gt_12, gt_13, gt_14, gt_15, gd_10, gd_11, gd_12, gd_13, gd_14, gd_15, n_lss, n_leq, n_gtr, n_geq, n_eql, n_neq, n_not, b_eql, b_neq, t_eql, t_neq, t_len, v_len, t_str, ld_elt, extB_index, extB_count, v_nilf, v_nilp, v_nile, v_offp, v_offe, o_int, o_bool, o_str, o_sl, o_ptr, o_fn, ow_t, cl_fn, ex_0, ex_1, ex_2, sa_0, sa_1, sa_2, vT_len, vB_len, vI_len, vT_strip, vB_strip, vI_strip, vT_np, vB_np, vI_np, vT_data, vB_data, vI_data, vT_esz, vB_esz, vI_esz, ag_2, ag_3, ag_6, ag_7, le_2, le_3, le_6, le_at0, le_at1, le_at2, em_e, es_e, ex_e, cM_e, cS_e, cX_e, vR_len, vR_strip, vR_np, vR_data, vR_esz3, vR_esz2, ob_len, st_obs, np_obs, Nat.zero_add, if_true, if_false, decide_true, decide_false, Bool.false_eq_true, Bool.not_true, Bool.not_false]) rfl
  show cv _ _ _ = _
  rw [impl_SpeakMail_1_eq]
  simp only [st_bool, st_int, st_str, st_nilp, st_ptr, st_elt, st_fn, st_sl, st_agg, st_tup, stL_nil, stL_cons, stLL_nil, stLL_cons, strip_strip, stripL_stripL, stripLL_stripLL, fz_bool, fz_int, fz_str, fz_sl, fz_agg, fz_fn0, fz_fn, fz_ptr, fz_elt, fz1_ptr, map_nil', map_cons', app_nil', app_cons', np_bool, np_int, np_str, np_sl, np_agg, np_elt, np_fn, npL_nil, npL_cons, npLL_nil, npLL_cons, d_bool, d_int, d_str, d_sl, d_agg, d_tup, dL_nil, dL_cons, dLL_nil, dLL_cons, sc_bool, sc_int, sc_str, sc_tup, s1_bool, s1_int, s1_str, al_nil, al_cons, an_tt, bind_s, id_s, if_bool, if_t, if_f, in_0, in_1, in_2, in_3, in_4, gt_0, gt_1, gt_2, gt_3, gt_4, gt_5, gt_6, gt_7, gt_8, gt_9, gt_10, gd_z, gd_1, gd_2, gd_3, gd_4, gd_5, gd_6, gd_7, gd_8, gd_9, gt_11, gt_12, gt_13, gt_14, gt_15, gd_10, gd_11, gd_12, gd_13, gd_14, gd_15, n_lss, n_leq, n_gtr, n_geq, n_eql, n_neq, n_not, b_eql, b_neq, t_eql, t_neq, t_len, v_len, t_str, ld_elt, extB_index, extB_count, v_nilf, v_nilp, v_nile, v_offp, v_offe, o_int, o_bool, o_str, o_sl, o_ptr, o_fn, ow_t, cl_fn, ex_0, ex_1, ex_2, sa_0, sa_1, sa_2, vT_len, vB_len, vI_len, vT_strip, vB_strip, vI_strip, vT_np, vB_np, vI_np, vT_data, vB_data, vI_data, vT_esz, vB_esz, vI_esz, ag_2, ag_3, ag_6, ag_7, le_2, le_3, le_6, le_at0, le_at1, le_at2, em_e, es_e, ex_e, cM_e, cS_e, cX_e, vR_len, vR_strip, vR_np, vR_data, vR_esz3, vR_esz2, ob_len, st_obs, np_obs, Nat.zero_add, if_true, if_false, decide_true, decide_false, Bool.false_eq_true, Bool.not_true, Bool.not_false, e1]

theorem impl_SpeakMail_c (m : Mail) (h : SmM m) : pc id_impl_SpeakMail [.agg (cM m)] = some (.tup [.sl true (vT (spokeL m)), .bool (spokeB m)]) := by
  have e0 := impl_MailValid_c m h
  simp only [cM_e] at e0
  have hf := h.1
  have ht := h.2.1.1
  have hl := h.2.2.1
  suffices hg : Gets (cv id_impl_SpeakMail [.agg (cM m)] []) fun r => r.1 = .tup [.sl true (vT (spokeL m)), .bool (spokeB m)] by
    obtain ⟨⟨v, H⟩, e, h⟩ := hg
    have h : v = _ := h
    subst h
    exact pc_of e (by simp only [st_bool, st_int, st_str, st_nilp, st_ptr, st_elt, st_fn, st_sl, st_agg, st_tup, stL_nil, stL_cons, stLL_nil, stLL_cons, strip_strip, stripL_stripL, stripLL_stripLL, fz_bool, fz_int, fz_str, fz_sl, fz_agg, fz_fn0, fz_fn, fz_ptr, fz_elt, fz1_ptr, map_nil', map_cons', app_nil', app_cons', np_bool, np_int, np_str, np_sl, np_agg, np_elt, np_fn, npL_nil, npL_cons, npLL_nil, npLL_cons, d_bool, d_int, d_str, d_sl, d_agg, d_tup, dL_nil, dL_cons, dLL_nil, dLL_cons, sc_bool, sc_int, sc_str, sc_tup, s1_bool, s1_int, s1_str, al_nil, al_cons, an_tt, bind_s, id_s, if_bool, if_t, if_f, in_0, in_1, in_2, in_3, in_4, gt_0, gt_1, gt_2, gt_3, gt_4, gt_5, gt_6, gt_7, gt_8, gt_9, gt_10, gd_z, gd_1, gd_2, gd_3, gd_4, gd_5, gd_6, gd_7, gd_8, gd_9, gt_11, gt_12, gt_13, gt_14, gt_15, gd_10, gd_11, gd_12, gd_13, gd_14, gd_15, n_lss, n_leq, n_gtr, n_geq, n_eql, n_neq, n_not, b_eql, b_neq, t_eql, t_neq, t_len, v_len, t_str, ld_elt, extB_index, extB_count, v_nilf, v_nilp, v_nile, v_offp, v_offe, o_int, o_bool, o_str, o_sl, o_ptr, o_fn, ow_t, cl_fn, ex_0, ex_1, ex_2, sa_0, sa_1, sa_2, vT_len, vB_len, vI_len, vT_strip, vB_strip, vI_strip, vT_np, vB_np, vI_np, vT_data, vB_data, vI_data, vT_esz, vB_esz, vI_esz, ag_2, ag_3, ag_6, ag_7, le_2, le_3, le_6, le_at0, le_at1, le_at2, em_e, es_e, ex_e, cM_e, cS_e, cX_e, vR_len, vR_strip, vR_np, vR_data, vR_esz3, vR_esz2, ob_len, st_obs, np_obs, Nat.zero_add, if_true, if_false, decide_true, decide_false, Bool.false_eq_true, Bool.not_true, Bool.not_false]) (by simp only [st_bool, st_int, st_str, st_nilp, st_ptr, st_elt, st_fn, st_sl, st_agg, st_tup, stL_nil, stL_cons, stLL_nil, stLL_cons, strip_strip, stripL_stripL, stripLL_stripLL, fz_bool, fz_int, fz_str, fz_sl, fz_agg, fz_fn0, fz_fn, fz_ptr, fz_elt, fz1_ptr, map_nil', map_cons', app_nil', app_cons', np_bool, np_int, np_str, np_sl, np_agg, np_elt, np_fn, npL_nil, npL_cons, npLL_nil, npLL_cons, d_bool, d_int, d_str, d_sl, d_agg, d_tup, dL_nil, dL_cons, dLL_nil, dLL_cons, sc_bool, sc_int, sc_str, sc_tup, s1_bool, s1_int, s1_str, al_nil, al_cons, an_tt, bind_s, id_s, if_bool, if_t, if_f, in_0, in_1, in_2, in_3, in_4, gt_0, gt_1, gt_2, gt_3, gt_4, gt_5, gt_6, gt_7, gt_8, gt_9, gt_10, gd_z, gd_1, gd_2, gd_3, gd_4, gd_5, gd_6, gd_7, gd_8, gd_9, gt_11, gt_12, gt_13, gt_14, gt_15, gd_10, gd_11, gd_12, gd_13, gd_14, gd_15, n_lss, n_leq, n_gtr, n_geq, n_eql, n_neq, n_not, b_eql, b_neq, t_eql, t_neq, t_len, v_len, t_str, ld_elt, extB_index, extB_count, v_nilf, v_nilp, v_nile, v_offp, v_offe, o_int, o_bool, o_str, o_sl, o_ptr, o_fn, ow_t, cl_fn, ex_0, ex_1, ex_2, sa_0, sa_1, sa_2, vT_len, vB_len, vI_len, vT_strip, vB_strip, vI_strip, vT_np, vB_np, vI_np, vT_data, vB_data, vI_data, vT_esz, vB_esz, vI_esz, ag_2, ag_3, ag_6, ag_7, le_2, le_3, le_6, le_at0, le_at1, le_at2, em_e, es_e, ex_e, cM_e, cS_e, cX_e, vR_len, vR_strip, vR_np, vR_data, vR_esz3, vR_esz2, ob_len, st_obs, np_obs, Nat.zero_add, if_true, if_false, decide_true, decide_false, Bool.false_eq_true, Bool.not_true, Bool.not_false])
  rw [impl_SpeakMail_eq]
  by_cases hv : mailT m 1 30 = true
  · have a1 := t_add .str [77, 65, 73, 76, 32, 70, 82, 79, 77, 58, 60] m.from_ (by simp; omega)
    have a2 := t_add .str ([77, 65, 73, 76, 32, 70, 82, 79, 77, 58, 60] ++ m.from_) [62] (by simp; omega)
    simp only [app_cons', app_nil'] at a1 a2
    simp only [st_bool, st_int, st_str, st_nilp, st_ptr, st_elt, st_fn, st_sl, st_agg, st_tup, stL_nil, stL_cons, stLL_nil, stLL_cons, strip_strip, stripL_stripL, stripLL_stripLL, fz_bool, fz_int, fz_str, fz_sl, fz_agg, fz_fn0, fz_fn, fz_ptr, fz_elt, fz1_ptr, map_nil', map_cons', app_nil', app_cons', np_bool, np_int, np_str, np_sl, np_agg, np_elt, np_fn, npL_nil, npL_cons, npLL_nil, npLL_cons, d_bool, d_int, d_str, d_sl, d_agg, d_tup, dL_nil, dL_cons, dLL_nil, dLL_cons, sc_bool, sc_int, sc_str, sc_tup, s1_bool, s1_int, s1_str, al_nil, al_cons, an_tt, bind_s, id_s, if_bool, if_t, if_f, in_0, in_1, in_2, in_3, in_4, gt_0, gt_1, gt_2, gt_3, gt_4, gt_5, gt_6, gt_7, gt_8, gt_9, gt_10, gd_z, gd_1, gd_2, gd_3, gd_4, gd_5, gd_6, gd_7, gd_8, gd_9, gt_11, gt_12, gt_13, gt_14, gt_15, gd_10, gd_11, gd_12, gd_13, gd_14, gd_15, n_lss, n_leq, n_gtr, n_geq, n_eql, n_neq, n_not, b_eql, b_neq, t_eql, t_neq, t_len, v_len, t_str, ld_elt, extB_index, extB_count, v_nilf, v_nilp, v_nile, v_offp, v_offe, o_int, o_bool, o_str, o_sl, o_ptr, o_fn, ow_t, cl_fn, ex_0, ex_1, ex_2, sa_0, sa_1, sa_2, vT_len, vB_len, vI_len, vT_strip, vB_strip, vI_strip, vT_np, vB_np, vI_np, vT_data, vB_data, vI_data, vT_esz, vB_esz, vI_esz, ag_2, ag_3, ag_6, ag_7, le_2, le_3, le_6, le_at0, le_at1, le_at2, em_e, es_e, ex_e, cM_e, cS_e, cX_e, vR_len, vR_strip, vR_np, vR_data, vR_esz3, vR_esz2, ob_len, st_obs, np_obs, Nat.zero_add, if_true, if_false, decide_true, decide_false, Bool.false_eq_true, Bool.not_true, Bool.not_false, e0, hv, a1, a2]
    refine Gets.loop2 (I := fun n st H => ∃ (i : Nat) (out : List Bs), n = m.to.length - i ∧ i ≤ m.to.length ∧ st = [.sl true (vT out), .sl false (vT m.to), .int .i64 (m.to.length : Nat), .int .i64 (i : Nat), .str m.from_, .sl false (vT m.to), .sl false (vT m.lines)] ∧ out = [fromL m.from_] ++ (m.to.take i).map rcptT)
      (P := fun q vs H => ∃ out, q = 0 ∧ vs = [.sl true (vT out), .str m.from_, .sl false (vT m.to), .sl false (vT m.lines)] ∧ out = [fromL m.from_] ++ m.to.map rcptT) (n := m.to.length) ?_ ⟨0, [fromL m.from_], by omega, by omega, rfl, by simp⟩ ?_
    · rintro n st H ⟨i, out, rfl, hi, rfl, ho⟩
      have hol : out.length = i + 1 := by rw [ho]; simp; omega
      rw [impl_SpeakMail_l5_eq]
      by_cases hlt : i < m.to.length
      · have i1 := vT_idx false m.to .i64 i hlt
        have hsm := h.2.1.2 _ (List.getElem_mem hlt)
        have b1 := t_add .str [82, 67, 80, 84, 32, 84, 79, 58, 60] m.to[i] (by simp; omega)
        have b2 := t_add .str ([82, 67, 80, 84, 32, 84, 79, 58, 60] ++ m.to[i]) [62] (by simp; omega)
        have e2 : vBinV (.int .i64) .add (.int .i64 (i : Int)) (.int .i64 1) = some (.int .i64 ((i + 1 : Nat) : Int)) := n_addN _ i 1 (by omega)
        have ap := sl_app1 (l := out) ([82, 67, 80, 84, 32, 84, 79, 58, 60] ++ m.to[i] ++ [62]) (by omega)
        simp only [app_cons', app_nil'] at b1 b2 ap
        simp only [st_bool, st_int, st_str, st_nilp, st_ptr, st_elt, st_fn, st_sl, st_agg, st_tup, stL_nil, stL_cons, stLL_nil, stLL_cons, strip_strip, stripL_stripL, stripLL_stripLL, fz_bool, fz_int, fz_str, fz_sl, fz_agg, fz_fn0, fz_fn, fz_ptr, fz_elt, fz1_ptr, map_nil', map_cons', app_nil', app_cons', np_bool, np_int, np_str, np_sl, np_agg, np_elt, np_fn, npL_nil, npL_cons, npLL_nil, npLL_cons, d_bool, d_int, d_str, d_sl, d_agg, d_tup, dL_nil, dL_cons, dLL_nil, dLL_cons, sc_bool, sc_int, sc_str, sc_tup, s1_bool, s1_int, s1_str, al_nil, al_cons, an_tt, bind_s, id_s, if_bool, if_t, if_f, in_0, in_1, in_2, in_3, in_4, gt_0, gt_1, gt_2, gt_3, gt_4, gt_5, gt_6, gt_7, gt_8, gt_9, gt_10, gd_z, gd_1, gd_2, gd_3, gd_4, gd_5, gd_6, gd_7, gd_8, gd_9, gt_11, gt_12, gt_13, gt_14, gt_15, gd_10, gd_11, gd_12, gd_13, gd_14, gd_15, n_lss, n_leq, n_gtr, n_geq, n_eql, n_neq, n_not, b_eql, b_neq, t_eql, t_neq, t_len, v_len, t_str, ld_elt, extB_index, extB_count, v_nilf, v_nilp, v_nile, v_offp, v_offe, o_int, o_bool, o_str, o_sl, o_ptr, o_fn, ow_t, cl_fn, ex_0, ex_1, ex_2, sa_0, sa_1, sa_2, vT_len, vB_len, vI_len, vT_strip, vB_strip, vI_strip, vT_np, vB_np, vI_np, vT_data, vB_data, vI_data, vT_esz, vB_esz, vI_esz, ag_2, ag_3, ag_6, ag_7, le_2, le_3, le_6, le_at0, le_at1, le_at2, em_e, es_e, ex_e, cM_e, cS_e, cX_e, vR_len, vR_strip, vR_np, vR_data, vR_esz3, vR_esz2, ob_len, st_obs, np_obs, Nat.zero_add, if_true, if_false, decide_true, decide_false, Bool.false_eq_true, Bool.not_true, Bool.not_false, i1, b1, b2, e2, ap, show ((i : Int) < (m.to.length : Int)) from by omega]
        refine ⟨_, rfl, .inr ⟨rfl, m.to.length - (i + 1), by omega, i + 1, _, rfl, by omega, rfl, ?_⟩⟩
        rw [ho, List.take_succ_eq_append_getElem hlt]
        show [fromL m.from_] ++ (m.to.take i).map rcptT ++ [rcptT m.to[i]] = [fromL m.from_] ++ (m.to.take i ++ [m.to[i]]).map rcptT
        rw [List.map_append, List.append_assoc]; rfl
      · have : i = m.to.length := by omega
        subst this
        simp only [st_bool, st_int, st_str, st_nilp, st_ptr, st_elt, st_fn, st_sl, st_agg, st_tup, stL_nil, stL_cons, stLL_nil, stLL_cons, strip_strip, stripL_stripL, stripLL_stripLL, fz_bool, fz_int, fz_str, fz_sl, fz_agg, fz_fn0, fz_fn, fz_ptr, fz_elt, fz1_ptr, map_nil', map_cons', app_nil', app_cons', np_bool, np_int, np_str, np_sl, np_agg, np_elt, np_fn, npL_nil, npL_cons, npLL_nil, npLL_cons, d_bool, d_int, d_str, d_sl, d_agg, d_tup, dL_nil, dL_cons, dLL_nil, dLL_cons, sc_bool, sc_int, sc_str, sc_tup, s1_bool, s1_int, s1_str, al_nil, al_cons, an_tt, bind_s, id_s, if_bool, if_t, if_f, in_0, in_1, in_2, in_3, in_4, gt_0, gt_1, gt_2, gt_3, gt_4, gt_5, gt_6, gt_7, gt_8, gt_9, gt_10, gd_z, gd_1, gd_2, gd_3, gd_4, gd_5, gd_6, gd_7, gd_8, gd_9, gt_11, gt_12, gt_13, gt_14, gt_15, gd_10, gd_11, gd_12, gd_13, gd_14, gd_15, n_lss, n_leq, n_gtr, n_geq, n_eql, n_neq, n_not, b_eql, b_neq, t_eql, t_neq, t_len, v_len, t_str, ld_elt, extB_index, extB_count, v_nilf, v_nilp, v_nile, v_offp, v_offe, o_int, o_bool, o_str, o_sl, o_ptr, o_fn, ow_t, cl_fn, ex_0, ex_1, ex_2, sa_0, sa_1, sa_2, vT_len, vB_len, vI_len, vT_strip, vB_strip, vI_strip, vT_np, vB_np, vI_np, vT_data, vB_data, vI_data, vT_esz, vB_esz, vI_esz, ag_2, ag_3, ag_6, ag_7, le_2, le_3, le_6, le_at0, le_at1, le_at2, em_e, es_e, ex_e, cM_e, cS_e, cX_e, vR_len, vR_strip, vR_np, vR_data, vR_esz3, vR_esz2, ob_len, st_obs, np_obs, Nat.zero_add, if_true, if_false, decide_true, decide_false, Bool.false_eq_true, Bool.not_true, Bool.not_false, show ¬ ((m.to.length : Int) < (m.to.length : Int)) from by omega]
        exact ⟨_, rfl, .inl ⟨0, rfl, out, rfl, rfl, by rw [ho, List.take_length]; rfl⟩⟩
    rintro _ _ H ⟨out, rfl, rfl, ho⟩
    have hol : out.length = m.to.length + 1 := by rw [ho]; simp
    have ap := sl_app1 (l := out) [68, 65, 84, 65] (by omega)
    simp only [st_bool, st_int, st_str, st_nilp, st_ptr, st_elt, st_fn, st_sl, st_agg, st_tup, stL_nil, stL_cons, stLL_nil, stLL_cons, strip_strip, stripL_stripL, stripLL_stripLL, fz_bool, fz_int, fz_str, fz_sl, fz_agg, fz_fn0, fz_fn, fz_ptr, fz_elt, fz1_ptr, map_nil', map_cons', app_nil', app_cons', np_bool, np_int, np_str, np_sl, np_agg, np_elt, np_fn, npL_nil, npL_cons, npLL_nil, npLL_cons, d_bool, d_int, d_str, d_sl, d_agg, d_tup, dL_nil, dL_cons, dLL_nil, dLL_cons, sc_bool, sc_int, sc_str, sc_tup, s1_bool, s1_int, s1_str, al_nil, al_cons, an_tt, bind_s, id_s, if_bool, if_t, if_f, in_0, in_1, in_2, in_3, in_4, gt_0, gt_1, gt_2, gt_3, gt_4, gt_5, gt_6, gt_7, gt_8, gt_9, gt_10, gd_z, gd_1, gd_2, gd_3, gd_4, gd_5, gd_6, gd_7, gd_8, gd_9, gt_11, gt_12, gt_13, gt_14, gt_15, gd_10, gd_11, gd_12, gd_13, gd_14, gd_15, n_lss, n_leq, n_gtr, n_geq, n_eql, n_neq, n_not, b_eql, b_neq, t_eql, t_neq, t_len, v_len, t_str, ld_elt, extB_index, extB_count, v_nilf, v_nilp, v_nile, v_offp, v_offe, o_int, o_bool, o_str, o_sl, o_ptr, o_fn, ow_t, cl_fn, ex_0, ex_1, ex_2, sa_0, sa_1, sa_2, vT_len, vB_len, vI_len, vT_strip, vB_strip, vI_strip, vT_np, vB_np, vI_np, vT_data, vB_data, vI_data, vT_esz, vB_esz, vI_esz, ag_2, ag_3, ag_6, ag_7, le_2, le_3, le_6, le_at0, le_at1, le_at2, em_e, es_e, ex_e, cM_e, cS_e, cX_e, vR_len, vR_strip, vR_np, vR_data, vR_esz3, vR_esz2, ob_len, st_obs, np_obs, Nat.zero_add, if_true, if_false, decide_true, decide_false, Bool.false_eq_true, Bool.not_true, Bool.not_false, ap]
    refine Gets.loop2 (I := fun n st H => ∃ (i : Nat) (out : List Bs), n = m.lines.length - i ∧ i ≤ m.lines.length ∧ st = [.sl true (vT out), .sl false (vT m.lines), .int .i64 (m.lines.length : Nat), .int .i64 (i : Nat)] ∧ out = headL m ++ (m.lines.take i).map stuffT)
      (P := fun q vs H => ∃ out, q = 0 ∧ vs = [.sl true (vT out)] ∧ out = headL m ++ m.lines.map stuffT) (n := m.lines.length) ?_ ⟨0, _, by omega, by omega, rfl, by rw [ho]; simp [headL]⟩ ?_
    · rintro n st H ⟨i, out, rfl, hi, rfl, ho⟩
      have hol : out.length = m.to.length + 2 + i := by rw [ho]; simp [headL]; omega
      rw [impl_SpeakMail_l11_eq]
      by_cases hlt : i < m.lines.length
      · have i1 := vT_idx false m.lines .i64 i hlt
        have hsm := h.2.2.2 _ (List.getElem_mem hlt)
        have e1 := stuffed_c m.lines[i] (by omega)
        have e2 : vBinV (.int .i64) .add (.int .i64 (i : Int)) (.int .i64 1) = some (.int .i64 ((i + 1 : Nat) : Int)) := n_addN _ i 1 (by omega)
        have ap := sl_app1 (l := out) (stuffT m.lines[i]) (by omega)
        simp only [st_bool, st_int, st_str, st_nilp, st_ptr, st_elt, st_fn, st_sl, st_agg, st_tup, stL_nil, stL_cons, stLL_nil, stLL_cons, strip_strip, stripL_stripL, stripLL_stripLL, fz_bool, fz_int, fz_str, fz_sl, fz_agg, fz_fn0, fz_fn, fz_ptr, fz_elt, fz1_ptr, map_nil', map_cons', app_nil', app_cons', np_bool, np_int, np_str, np_sl, np_agg, np_elt, np_fn, npL_nil, npL_cons, npLL_nil, npLL_cons, d_bool, d_int, d_str, d_sl, d_agg, d_tup, dL_nil, dL_cons, dLL_nil, dLL_cons, sc_bool, sc_int, sc_str, sc_tup, s1_bool, s1_int, s1_str, al_nil, al_cons, an_tt, bind_s, id_s, if_bool, if_t, if_f, in_0, in_1, in_2, in_3, in_4, gt_0, gt_1, gt_2, gt_3, gt_4, gt_5, gt_6, gt_7, gt_8, gt_9, gt_10, gd_z, gd_1, gd_2, gd_3, gd_4, gd_5, gd_6, gd_7, gd_8, gd_9, gt_11, gt_12, gt_13, gt_14, gt_15, gd_10, gd_11, gd_12, gd_13, gd_14, gd_15, n_lss, n_leq, n_gtr, n_geq, n_eql, n_neq, n_not, b_eql, b_neq, t_eql, t_neq, t_len, v_len, t_str, ld_elt, extB_index, extB_count, v_nilf, v_nilp, v_nile, v_offp, v_offe, o_int, o_bool, o_str, o_sl, o_ptr, o_fn, ow_t, cl_fn, ex_0, ex_1, ex_2, sa_0, sa_1, sa_2, vT_len, vB_len, vI_len, vT_strip, vB_strip, vI_strip, vT_np, vB_np, vI_np, vT_data, vB_data, vI_data, vT_esz, vB_esz, vI_esz, ag_2, ag_3, ag_6, ag_7, le_2, le_3, le_6, le_at0, le_at1, le_at2, em_e, es_e, ex_e, cM_e, cS_e, cX_e, vR_len, vR_strip, vR_np, vR_data, vR_esz3, vR_esz2, ob_len, st_obs, np_obs, Nat.zero_add, if_true, if_false, decide_true, decide_false, Bool.false_eq_true, Bool.not_true, Bool.not_false, i1, e1, e2, ap, show ((i : Int) < (m.lines.length : Int)) from by omega]
        refine ⟨_, rfl, .inr ⟨rfl, m.lines.length - (i + 1), by omega, i + 1, _, rfl, by omega, rfl, ?_⟩⟩
        rw [ho, List.take_succ_eq_append_getElem hlt]
        show headL m ++ (m.lines.take i).map stuffT ++ [stuffT m.lines[i]] = headL m ++ (m.lines.take i ++ [m.lines[i]]).map stuffT
        rw [List.map_append, List.append_assoc]; rfl
      · have : i = m.lines.length := by omega
        subst this
        simp only [st_bool, st_int, st_str, st_nilp, st_ptr, st_elt, st_fn, st_sl, st_agg, st_tup, stL_nil, stL_cons, stLL_nil, stLL_cons, strip_strip, stripL_stripL, stripLL_stripLL, fz_bool, fz_int, fz_str, fz_sl, fz_agg, fz_fn0, fz_fn, fz_ptr, fz_elt, fz1_ptr, map_nil', map_cons', app_nil', app_cons', np_bool, np_int, np_str, np_sl, np_agg, np_elt, np_fn, npL_nil, npL_cons, npLL_nil, npLL_cons, d_bool, d_int, d_str, d_sl, d_agg, d_tup, dL_nil, dL_cons, dLL_nil, dLL_cons, sc_bool, sc_int, sc_str, sc_tup, s1_bool, s1_int, s1_str, al_nil, al_cons, an_tt, bind_s, id_s, if_bool, if_t, if_f, in_0, in_1, in_2, in_3, in_4, gt_0, gt_1, gt_2, gt_3, gt_4, gt_5, gt_6, gt_7, gt_8, gt_9, gt_10, gd_z, gd_1, gd_2, gd_3, gd_4, gd_5, gd_6, gd_7, gd_8, gd_9, gt_11, gt_12, gt_13, gt_14, gt_15, gd_10, gd_11, gd_12, gd_13, gd_14, gd_15, n_lss, n_leq, n_gtr, n_geq, n_eql, n_neq, n_not, b_eql, b_neq, t_eql, t_neq, t_len, v_len, t_str, ld_elt, extB_index, extB_count, v_nilf, v_nilp, v_nile, v_offp, v_offe, o_int, o_bool, o_str, o_sl, o_ptr, o_fn, ow_t, cl_fn, ex_0, ex_1, ex_2, sa_0, sa_1, sa_2, vT_len, vB_len, vI_len, vT_strip, vB_strip, vI_strip, vT_np, vB_np, vI_np, vT_data, vB_data, vI_data, vT_esz, vB_esz, vI_esz, ag_2, ag_3, ag_6, ag_7, le_2, le_3, le_6, le_at0, le_at1, le_at2, em_e, es_e, ex_e, cM_e, cS_e, cX_e, vR_len, vR_strip, vR_np, vR_data, vR_esz3, vR_esz2, ob_len, st_obs, np_obs, Nat.zero_add, if_true, if_false, decide_true, decide_false, Bool.false_eq_true, Bool.not_true, Bool.not_false, show ¬ ((m.lines.length : Int) < (m.lines.length : Int)) from by omega]
        exact ⟨_, rfl, .inl ⟨0, rfl, out, rfl, rfl, by rw [ho, List.take_length]⟩⟩
    rintro _ _ H2 ⟨out, rfl, rfl, ho⟩
    subst ho
    have hany : ((headL m ++ m.lines.map stuffT).any fun t => !textT t) = (m.lines.any fun l => !textT (stuffT l)) := by
      rw [List.any_append, head_text hv, Bool.false_or, List.any_map]; rfl
    have hcf := containsFuncT_c id_impl_SpeakMail_1 (fun t => !textT t) (headL m ++ m.lines.map stuffT) (fun t htm => impl_SpeakMail_1_c t (by
      simp only [headL, List.mem_append, List.mem_singleton, List.mem_map] at htm
      rcases htm with ((rfl | ⟨p, hp, rfl⟩) | rfl) | ⟨p, hp, rfl⟩
      · simp [fromL]; omega
      · have := h.2.1.2 p hp; simp [rcptT]; omega
      · simp
      · have := h.2.2.2 p hp; have := stuffT_len p; omega)) (by simp [headL]; omega)
    rw [hany] at hcf
    have ap2 := sl_app1 (l := headL m ++ m.lines.map stuffT) [46] (by simp [headL]; omega)
    by_cases hb : (m.lines.any fun l => !textT (stuffT l)) = true
    · have h1 : spokeB m = false := by unfold spokeB; rw [hb, hv]; rfl
      have h2 : spokeL m = [] := by unfold spokeL; rw [if_neg (by rw [h1]; simp)]
      rw [h1, h2]
      simp only [st_bool, st_int, st_str, st_nilp, st_ptr, st_elt, st_fn, st_sl, st_agg, st_tup, stL_nil, stL_cons, stLL_nil, stLL_cons, strip_strip, stripL_stripL, stripLL_stripLL, fz_bool, fz_int, fz_str, fz_sl, fz_agg, fz_fn0, fz_fn, fz_ptr, fz_elt, fz1_ptr, map_nil', map_cons', app_nil', app_cons', np_bool, np_int, np_str, np_sl, np_agg, np_elt, np_fn, npL_nil, npL_cons, npLL_nil, npLL_cons, d_bool, d_int, d_str, d_sl, d_agg, d_tup, dL_nil, dL_cons, dLL_nil, dLL_cons, sc_bool, sc_int, sc_str, sc_tup, s1_bool, s1_int, s1_str, al_nil, al_cons, an_tt, bind_s, id_s, if_bool, if_t, if_f, in_0, in_1, in_2, in_3, in_4, gt_0, gt_1, gt_2, gt_3, gt_4, gt_5, gt_6, gt_7, gt_8, gt_9, gt_10, gd_z, gd_1, gd_2, gd_3, gd_4, gd_5, gd_6, gd_7, gd_8, gd_9, gt_11, gt_12, gt_13, gt_14, gt_15, gd_10, gd_11, gd_12, gd_13, gd_14, gd_15, n_lss, n_leq, n_gtr, n_geq, n_eql, n_neq, n_not, b_eql, b_neq, t_eql, t_neq, t_len, v_len, t_str, ld_elt, extB_index, extB_count, v_nilf, v_nilp, v_nile, v_offp, v_offe, o_int, o_bool, o_str, o_sl, o_ptr, o_fn, ow_t, cl_fn, ex_0, ex_1, ex_2, sa_0, sa_1, sa_2, vT_len, vB_len, vI_len, vT_strip, vB_strip, vI_strip, vT_np, vB_np, vI_np, vT_data, vB_data, vI_data, vT_esz, vB_esz, vI_esz, ag_2, ag_3, ag_6, ag_7, le_2, le_3, le_6, le_at0, le_at1, le_at2, em_e, es_e, ex_e, cM_e, cS_e, cX_e, vR_len, vR_strip, vR_np, vR_data, vR_esz3, vR_esz2, ob_len, st_obs, np_obs, Nat.zero_add, if_true, if_false, decide_true, decide_false, Bool.false_eq_true, Bool.not_true, Bool.not_false, hcf, hb]
      exact Gets.here rfl
    · have hb' : (m.lines.any fun l => !textT (stuffT l)) = false := by simpa using hb
      have h1 : spokeB m = true := by unfold spokeB; rw [hb', hv]; rfl
      have h2 : spokeL m = headL m ++ m.lines.map stuffT ++ [[46]] := by unfold spokeL; rw [if_pos h1]
      rw [h1, h2]
      simp only [st_bool, st_int, st_str, st_nilp, st_ptr, st_elt, st_fn, st_sl, st_agg, st_tup, stL_nil, stL_cons, stLL_nil, stLL_cons, strip_strip, stripL_stripL, stripLL_stripLL, fz_bool, fz_int, fz_str, fz_sl, fz_agg, fz_fn0, fz_fn, fz_ptr, fz_elt, fz1_ptr, map_nil', map_cons', app_nil', app_cons', np_bool, np_int, np_str, np_sl, np_agg, np_elt, np_fn, npL_nil, npL_cons, npLL_nil, npLL_cons, d_bool, d_int, d_str, d_sl, d_agg, d_tup, dL_nil, dL_cons, dLL_nil, dLL_cons, sc_bool, sc_int, sc_str, sc_tup, s1_bool, s1_int, s1_str, al_nil, al_cons, an_tt, bind_s, id_s, if_bool, if_t, if_f, in_0, in_1, in_2, in_3, in_4, gt_0, gt_1, gt_2, gt_3, gt_4, gt_5, gt_6, gt_7, gt_8, gt_9, gt_10, gd_z, gd_1, gd_2, gd_3, gd_4, gd_5, gd_6, gd_7, gd_8, gd_9, gt_11, gt_12, gt_13, gt_14, gt_15, gd_10, gd_11, gd_12, gd_13, gd_14, gd_15, n_lss, n_leq, n_gtr, n_geq, n_eql, n_neq, n_not, b_eql, b_neq, t_eql, t_neq, t_len, v_len, t_str, ld_elt, extB_index, extB_count, v_nilf, v_nilp, v_nile, v_offp, v_offe, o_int, o_bool, o_str, o_sl, o_ptr, o_fn, ow_t, cl_fn, ex_0, ex_1, ex_2, sa_0, sa_1, sa_2, vT_len, vB_len, vI_len, vT_strip, vB_strip, vI_strip, vT_np, vB_np, vI_np, vT_data, vB_data, vI_data, vT_esz, vB_esz, vI_esz, ag_2, ag_3, ag_6, ag_7, le_2, le_3, le_6, le_at0, le_at1, le_at2, em_e, es_e, ex_e, cM_e, cS_e, cX_e, vR_len, vR_strip, vR_np, vR_data, vR_esz3, vR_esz2, ob_len, st_obs, np_obs, Nat.zero_add, if_true, if_false, decide_true, decide_false, Bool.false_eq_true, Bool.not_true, Bool.not_false, hcf, hb', ap2]
      exact Gets.here rfl
  · have h1 : spokeB m = false := by unfold spokeB; rw [show mailT m 1 30 = false from by simpa using hv]; rfl
    have h2 : spokeL m = [] := by unfold spokeL; rw [if_neg (by rw [h1]; simp)]
    rw [h1, h2]
    simp only [st_bool, st_int, st_str, st_nilp, st_ptr, st_elt, st_fn, st_sl, st_agg, st_tup, stL_nil, stL_cons, stLL_nil, stLL_cons, strip_strip, stripL_stripL, stripLL_stripLL, fz_bool, fz_int, fz_str, fz_sl, fz_agg, fz_fn0, fz_fn, fz_ptr, fz_elt, fz1_ptr, map_nil', map_cons', app_nil', app_cons', np_bool, np_int, np_str, np_sl, np_agg, np_elt, np_fn, npL_nil, npL_cons, npLL_nil, npLL_cons, d_bool, d_int, d_str, d_sl, d_agg, d_tup, dL_nil, dL_cons, dLL_nil, dLL_cons, sc_bool, sc_int, sc_str, sc_tup, s1_bool, s1_int, s1_str, al_nil, al_cons, an_tt, bind_s, id_s, if_bool, if_t, if_f, in_0, in_1, in_2, in_3, in_4, gt_0, gt_1, gt_2, gt_3, gt_4, gt_5, gt_6, gt_7, gt_8, gt_9, gt_10, gd_z, gd_1, gd_2, gd_3, gd_4, gd_5, gd_6, gd_7, gd_8, gd_9, gt_11, gt_12, gt_13, gt_14, gt_15, gd_10, gd_11, gd_12, gd_13, gd_14, gd_15, n_lss, n_leq, n_gtr, n_geq, n_eql, n_neq, n_not, b_eql, b_neq, t_eql, t_neq, t_len, v_len, t_str, ld_elt, extB_index, extB_count, v_nilf, v_nilp, v_nile, v_offp, v_offe, o_int, o_bool, o_str, o_sl, o_ptr, o_fn, ow_t, cl_fn, ex_0, ex_1, ex_2, sa_0, sa_1, sa_2, vT_len, vB_len, vI_len, vT_strip, vB_strip, vI_strip, vT_np, vB_np, vI_np, vT_data, vB_data, vI_data, vT_esz, vB_esz, vI_esz, ag_2, ag_3, ag_6, ag_7, le_2, le_3, le_6, le_at0, le_at1, le_at2, em_e, es_e, ex_e, cM_e, cS_e, cX_e, vR_len, vR_strip, vR_np, vR_data, vR_esz3, vR_esz2, ob_len, st_obs, np_obs, Nat.zero_add, if_true, if_false, decide_true, decide_false, Bool.false_eq_true, Bool.not_true, Bool.not_false, e0, hv]
    exact Gets.here rfl

def longL (l : Bs) : Bool := decide (l.length = 200) && decide (l.head? = some 46)
theorem pre_dot (l : Bs) : preT l [46] = decide (l.head? = some 46) := by
  unfold preT
  cases l with
  | nil => rfl
  | cons b r => simp
theorem long_text {l : Bs} (h : textT l = true) : textT (stuffT l) = !longL l := by
  simp only [textT, Bool.and_eq_true, Bool.not_eq_true', decide_eq_true_eq] at h
  unfold stuffT longL
  rw [pre_dot]
  by_cases h1 : l.head? = some 46
  · rw [if_pos (decide_eq_true h1), decide_eq_true h1, Bool.and_true]
    unfold textT
    rw [List.any_cons, h.1, show wrB ((46 : UInt8).toNat : Int) = false from rfl]
    by_cases h2 : l.length = 200
    · rw [decide_eq_true h2, decide_eq_false (by simp; omega)]; rfl
    · rw [decide_eq_false h2, decide_eq_true (by simp; omega)]; rfl
  · rw [if_neg (by simpa using h1), decide_eq_false h1, Bool.and_false]
    unfold textT
    rw [h.1, decide_eq_true h.2]; rfl

theorem FnMailValid_v (u : V) (h : HasArg (.sl (.int .u8)) u) : ∃ H, cv id_laws_FnMailValid [u] [] = some (.bool true, H) := by
  obtain ⟨xs, rfl⟩ := argB h
  suffices hg : Gets (cv id_laws_FnMailValid [.sl false (vB xs)] []) fun r => r.1 = .bool true by
    obtain ⟨⟨v, H⟩, e, h⟩ := hg
    cases h
    exact ⟨H, e⟩
  rw [laws_FnMailValid_eq]
  simp only [st_bool, st_int, st_str, st_nilp, st_ptr, st_elt, st_fn, st_sl, st_agg, st_tup, stL_nil, stL_cons, stLL_nil, stLL_cons, strip_strip, stripL_stripL, stripLL_stripLL, fz_bool, fz_int, fz_str, fz_sl, fz_agg, fz_fn0, fz_fn, fz_ptr, fz_elt, fz1_ptr, map_nil', map_cons', app_nil', app_cons', np_bool, np_int, np_str, np_sl, np_agg, np_elt, np_fn, npL_nil, npL_cons, npLL_nil, npLL_cons, d_bool, d_int, d_str, d_sl, d_agg, d_tup, dL_nil, dL_cons, dLL_nil, dLL_cons, sc_bool, sc_int, sc_str, sc_tup, s1_bool, s1_int, s1_str, al_nil, al_cons, an_tt, bind_s, id_s, if_bool, if_t, if_f, in_0, in_1, in_2, in_3, in_4, gt_0, gt_1, gt_2, gt_3, gt_4, gt_5, gt_6, gt_7, gt_8, gt_9, gt_10, gd_z, gd_1, gd_2, gd_3, gd_4, gd_5, gd_6, gd_7, gd_8, gd_9, gt_11, gt_12, gt_13, gt_14, gt_15, gd_10, gd_11, gd_12, gd_13, gd_14, gd_15, n_lss, n_leq, n_gtr, n_geq, n_eql, n_neq, n_not, b_eql, b_neq, t_eql, t_neq, t_len, v_len, t_str, ld_elt, extB_index, extB_count, v_nilf, v_nilp, v_nile, v_offp, v_offe, o_int, o_bool, o_str, o_sl, o_ptr, o_fn, ow_t, cl_fn, ex_0, ex_1, ex_2, sa_0, sa_1, sa_2, vT_len, vB_len, vI_len, vT_strip, vB_strip, vI_strip, vT_np, vB_np, vI_np, vT_data, vB_data, vI_data, vT_esz, vB_esz, vI_esz, ag_2, ag_3, ag_6, ag_7, le_2, le_3, le_6, le_at0, le_at1, le_at2, em_e, es_e, ex_e, cM_e, cS_e, cX_e, vR_len, vR_strip, vR_np, vR_data, vR_esz3, vR_esz2, ob_len, st_obs, np_obs, Nat.zero_add, if_true, if_false, decide_true, decide_false, Bool.false_eq_true, Bool.not_true, Bool.not_false, decide_eq_true_eq]
  refine Gets.ite (fun h => ?_) (fun h => ?_)
  · exact Gets.here rfl
  · refine (DrawMailValid_g xs).bind ?_
    rintro _ H1 ⟨m, rfl, hm⟩
    have v1 := impl_MailValid_c m hm.sm
    have v2 := spec_MailValid_c m hm.sm
    have v3 := impl_SpeakMail_c m hm.sm
    have hml := hm.2.2.1
    simp only [cM_e] at v1 v2 v3
    have loop : ∀ (a b : Bool) (H : VH) (K : Nat × List V × VH → Option (V × VH)), (∀ H, Gets (K (0, [.bool a, .bool b, .bool (m.lines.any longL)], H)) fun r => r.1 = .bool true) → ∀ (f t l : V), f = .str m.from_ → t = .sl true (vT m.to) → l = .sl true (vT m.lines) →
        Gets ((lpW' laws_FnMailValid_l10 [.bool a, .bool b, .bool false, .int .i64 0, f, t, l] H).bind K) fun r => r.1 = .bool true := by
      intro a b H K hK f t l hf ht hl
      refine Gets.loop2 (I := fun n st H => ∃ i : Nat, n = m.lines.length - i ∧ i ≤ m.lines.length ∧ st = [.bool a, .bool b, .bool ((m.lines.take i).any longL), .int .i64 (i : Nat), f, t, l])
        (P := fun q vs H => q = 0 ∧ vs = [.bool a, .bool b, .bool (m.lines.any longL)]) (n := m.lines.length) ?_ ⟨0, by omega, by omega, rfl⟩ ?_
      · rintro n st H ⟨i, rfl, hi, rfl⟩
        rw [laws_FnMailValid_l10_eq]
        subst hl
        by_cases hlt : i < m.lines.length
        · have i1 := vT_idx false m.lines .i64 i hlt
          have e2 : vBinV (.int .i64) .add (.int .i64 (i : Int)) (.int .i64 1) = some (.int .i64 ((i + 1 : Nat) : Int)) := n_addN _ i 1 (by omega)
          have nx : (m.lines.take (i + 1)).any longL = ((m.lines.take i).any longL || longL m.lines[i]) := by rw [List.take_succ_eq_append_getElem hlt, List.any_append, List.any_cons, List.any_nil, Bool.or_false]
          by_cases h0 : (m.lines.take i).any longL = true
          · simp only [st_bool, st_int, st_str, st_nilp, st_ptr, st_elt, st_fn, st_sl, st_agg, st_tup, stL_nil, stL_cons, stLL_nil, stLL_cons, strip_strip, stripL_stripL, stripLL_stripLL, fz_bool, fz_int, fz_str, fz_sl, fz_agg, fz_fn0, fz_fn, fz_ptr, fz_elt, fz1_ptr, map_nil', map_cons', app_nil', app_cons', np_bool, np_int, np_str, np_sl, np_agg, np_elt, np_fn, npL_nil, npL_cons, npLL_nil, npLL_cons, d_bool, d_int, d_str, d_sl, d_agg, d_tup, dL_nil, dL_cons, dLL_nil, dLL_cons, sc_bool, sc_int, sc_str, sc_tup, s1_bool, s1_int, s1_str, al_nil, al_cons, an_tt, bind_s, id_s, if_bool, if_t, if_f, in_0, in_1, in_2, in_3, in_4, gt_0, gt_1, gt_2, gt_3, gt_4, gt_5, gt_6, gt_7, gt_8, gt_9, gt_10, gd_z, gd_1, gd_2, gd_3, gd_4, gd_5, gd_6, gd_7, gd_8, gd_9, gt_11, gt_12, gt_13, gt_14, gt_15, gd_10, gd_11, gd_12, gd_13, gd_14, gd_15, n_lss, n_leq, n_gtr, n_geq, n_eql, n_neq, n_not, b_eql, b_neq, t_eql, t_neq, t_len, v_len, t_str, ld_elt, extB_index, extB_count, v_nilf, v_nilp, v_nile, v_offp, v_offe, o_int, o_bool, o_str, o_sl, o_ptr, o_fn, ow_t, cl_fn, ex_0, ex_1, ex_2, sa_0, sa_1, sa_2, vT_len, vB_len, vI_len, vT_strip, vB_strip, vI_strip, vT_np, vB_np, vI_np, vT_data, vB_data, vI_data, vT_esz, vB_esz, vI_esz, ag_2, ag_3, ag_6, ag_7, le_2, le_3, le_6, le_at0, le_at1, le_at2, em_e, es_e, ex_e, cM_e, cS_e, cX_e, vR_len, vR_strip, vR_np, vR_data, vR_esz3, vR_esz2, ob_len, st_obs, np_obs, Nat.zero_add, if_true, if_false, decide_true, decide_false, Bool.false_eq_true, Bool.not_true, Bool.not_false, h0, e2, show ((i : Int) < (m.lines.length : Int)) from by omega]
            exact ⟨_, rfl, .inr ⟨rfl, m.lines.length - (i + 1), by omega, i + 1, rfl, by omega, by rw [nx, h0]; rfl⟩⟩
          · have h0' : (m.lines.take i).any longL = false := by simpa using h0
            by_cases h2 : m.lines[i].length = 200
            · have p1 : vIndexSV (.str m.lines[i]) (.int .i64 0) = some (.int .u8 ((m.lines[i])[0].toNat : Int)) := t_idx m.lines[i] .i64 0 (by omega)
              have hd : (m.lines[i]).head? = some (m.lines[i])[0] := by rw [List.head?_eq_getElem?, List.getElem?_eq_getElem (by omega)]
              have k : decide (((m.lines[i])[0].toNat : Int) = 46) = longL m.lines[i] := by
                unfold longL
                rw [decide_eq_true h2, Bool.true_and, hd]
                refine decide_eq_decide.2 ⟨fun h => ?_, fun h => ?_⟩
                · congr 1; exact UInt8.toNat_inj.1 (by rw [show (m.lines[i])[0].toNat = 46 from by omega]; rfl)
                · rw [Option.some.inj h]; rfl
              simp only [st_bool, st_int, st_str, st_nilp, st_ptr, st_elt, st_fn, st_sl, st_agg, st_tup, stL_nil, stL_cons, stLL_nil, stLL_cons, strip_strip, stripL_stripL, stripLL_stripLL, fz_bool, fz_int, fz_str, fz_sl, fz_agg, fz_fn0, fz_fn, fz_ptr, fz_elt, fz1_ptr, map_nil', map_cons', app_nil', app_cons', np_bool, np_int, np_str, np_sl, np_agg, np_elt, np_fn, npL_nil, npL_cons, npLL_nil, npLL_cons, d_bool, d_int, d_str, d_sl, d_agg, d_tup, dL_nil, dL_cons, dLL_nil, dLL_cons, sc_bool, sc_int, sc_str, sc_tup, s1_bool, s1_int, s1_str, al_nil, al_cons, an_tt, bind_s, id_s, if_bool, if_t, if_f, in_0, in_1, in_2, in_3, in_4, gt_0, gt_1, gt_2, gt_3, gt_4, gt_5, gt_6, gt_7, gt_8, gt_9, gt_10, gd_z, gd_1, gd_2, gd_3, gd_4, gd_5, gd_6, gd_7, gd_8, gd_9, gt_11, gt_12, gt_13, gt_14, gt_15, gd_10, gd_11, gd_12, gd_13, gd_14, gd_15, n_lss, n_leq, n_gtr, n_geq, n_eql, n_neq, n_not, b_eql, b_neq, t_eql, t_neq, t_len, v_len, t_str, ld_elt, extB_index, extB_count, v_nilf, v_nilp, v_nile, v_offp, v_offe, o_int, o_bool, o_str, o_sl, o_ptr, o_fn, ow_t, cl_fn, ex_0, ex_1, ex_2, sa_0, sa_1, sa_2, vT_len, vB_len, vI_len, vT_strip, vB_strip, vI_strip, vT_np, vB_np, vI_np, vT_data, vB_data, vI_data, vT_esz, vB_esz, vI_esz, ag_2, ag_3, ag_6, ag_7, le_2, le_3, le_6, le_at0, le_at1, le_at2, em_e, es_e, ex_e, cM_e, cS_e, cX_e, vR_len, vR_strip, vR_np, vR_data, vR_esz3, vR_esz2, ob_len, st_obs, np_obs, Nat.zero_add, if_true, if_false, decide_true, decide_false, Bool.false_eq_true, Bool.not_true, Bool.not_false, h0', i1, e2, p1, k, show (((m.lines[i]).length : Int) = 200) from by omega, show ((i : Int) < (m.lines.length : Int)) from by omega]
              exact ⟨_, rfl, .inr ⟨rfl, m.lines.length - (i + 1), by omega, i + 1, rfl, by omega, by rw [nx, h0']; rfl⟩⟩
            · have k : longL m.lines[i] = false := by unfold longL; rw [decide_eq_false h2, Bool.false_and]
              simp only [st_bool, st_int, st_str, st_nilp, st_ptr, st_elt, st_fn, st_sl, st_agg, st_tup, stL_nil, stL_cons, stLL_nil, stLL_cons, strip_strip, stripL_stripL, stripLL_stripLL, fz_bool, fz_int, fz_str, fz_sl, fz_agg, fz_fn0, fz_fn, fz_ptr, fz_elt, fz1_ptr, map_nil', map_cons', app_nil', app_cons', np_bool, np_int, np_str, np_sl, np_agg, np_elt, np_fn, npL_nil, npL_cons, npLL_nil, npLL_cons, d_bool, d_int, d_str, d_sl, d_agg, d_tup, dL_nil, dL_cons, dLL_nil, dLL_cons, sc_bool, sc_int, sc_str, sc_tup, s1_bool, s1_int, s1_str, al_nil, al_cons, an_tt, bind_s, id_s, if_bool, if_t, if_f, in_0, in_1, in_2, in_3, in_4, gt_0, gt_1, gt_2, gt_3, gt_4, gt_5, gt_6, gt_7, gt_8, gt_9, gt_10, gd_z, gd_1, gd_2, gd_3, gd_4, gd_5, gd_6, gd_7, gd_8, gd_9, gt_11, gt_12, gt_13, gt_14, gt_15, gd_10, gd_11, gd_12, gd_13, gd_14, gd_15, n_lss, n_leq, n_gtr, n_geq, n_eql, n_neq, n_not, b_eql, b_neq, t_eql, t_neq, t_len, v_len, t_str, ld_elt, extB_index, extB_count, v_nilf, v_nilp, v_nile, v_offp, v_offe, o_int, o_bool, o_str, o_sl, o_ptr, o_fn, ow_t, cl_fn, ex_0, ex_1, ex_2, sa_0, sa_1, sa_2, vT_len, vB_len, vI_len, vT_strip, vB_strip, vI_strip, vT_np, vB_np, vI_np, vT_data, vB_data, vI_data, vT_esz, vB_esz, vI_esz, ag_2, ag_3, ag_6, ag_7, le_2, le_3, le_6, le_at0, le_at1, le_at2, em_e, es_e, ex_e, cM_e, cS_e, cX_e, vR_len, vR_strip, vR_np, vR_data, vR_esz3, vR_esz2, ob_len, st_obs, np_obs, Nat.zero_add, if_true, if_false, decide_true, decide_false, Bool.false_eq_true, Bool.not_true, Bool.not_false, h0', i1, e2, show ¬ (((m.lines[i]).length : Int) = 200) from by omega, show ((i : Int) < (m.lines.length : Int)) from by omega]
              exact ⟨_, rfl, .inr ⟨rfl, m.lines.length - (i + 1), by omega, i + 1, rfl, by omega, by rw [nx, h0', k]; rfl⟩⟩
        · have : i = m.lines.length := by omega
          subst this
          simp only [st_bool, st_int, st_str, st_nilp, st_ptr, st_elt, st_fn, st_sl, st_agg, st_tup, stL_nil, stL_cons, stLL_nil, stLL_cons, strip_strip, stripL_stripL, stripLL_stripLL, fz_bool, fz_int, fz_str, fz_sl, fz_agg, fz_fn0, fz_fn, fz_ptr, fz_elt, fz1_ptr, map_nil', map_cons', app_nil', app_cons', np_bool, np_int, np_str, np_sl, np_agg, np_elt, np_fn, npL_nil, npL_cons, npLL_nil, npLL_cons, d_bool, d_int, d_str, d_sl, d_agg, d_tup, dL_nil, dL_cons, dLL_nil, dLL_cons, sc_bool, sc_int, sc_str, sc_tup, s1_bool, s1_int, s1_str, al_nil, al_cons, an_tt, bind_s, id_s, if_bool, if_t, if_f, in_0, in_1, in_2, in_3, in_4, gt_0, gt_1, gt_2, gt_3, gt_4, gt_5, gt_6, gt_7, gt_8, gt_9, gt_10, gd_z, gd_1, gd_2, gd_3, gd_4, gd_5, gd_6, gd_7, gd_8, gd_9, gt_11, gt_12, gt_13, gt_14, gt_15, gd_10, gd_11, gd_12, gd_13, gd_14, gd_15, n_lss, n_leq, n_gtr, n_geq, n_eql, n_neq, n_not, b_eql, b_neq, t_eql, t_neq, t_len, v_len, t_str, ld_elt, extB_index, extB_count, v_nilf, v_nilp, v_nile, v_offp, v_offe, o_int, o_bool, o_str, o_sl, o_ptr, o_fn, ow_t, cl_fn, ex_0, ex_1, ex_2, sa_0, sa_1, sa_2, vT_len, vB_len, vI_len, vT_strip, vB_strip, vI_strip, vT_np, vB_np, vI_np, vT_data, vB_data, vI_data, vT_esz, vB_esz, vI_esz, ag_2, ag_3, ag_6, ag_7, le_2, le_3, le_6, le_at0, le_at1, le_at2, em_e, es_e, ex_e, cM_e, cS_e, cX_e, vR_len, vR_strip, vR_np, vR_data, vR_esz3, vR_esz2, ob_len, st_obs, np_obs, Nat.zero_add, if_true, if_false, decide_true, decide_false, Bool.false_eq_true, Bool.not_true, Bool.not_false, show ¬ ((m.lines.length : Int) < (m.lines.length : Int)) from by omega]
          exact ⟨_, rfl, .inl ⟨0, rfl, rfl, by rw [List.take_length]⟩⟩
      rintro _ _ H ⟨rfl, rfl⟩
      exact hK H
    have key : mailT m 1 30 = true → spokeB m = !(m.lines.any longL) := fun e => by
      have e' := e
      simp only [mailT, Bool.and_eq_true, Bool.not_eq_true', List.any_eq_false] at e
      unfold spokeB
      rw [e', Bool.true_and]
      congr 1
      have h6 := e.2.2.2.2.2
      rw [Bool.eq_iff_iff]
      simp only [List.any_eq_true]
      constructor
      · rintro ⟨l, h1, h2⟩
        have h3 : textT l = true := by have := h6 l h1; simpa using this
        rw [long_text h3] at h2
        exact ⟨l, h1, by simpa using h2⟩
      · rintro ⟨l, h1, h2⟩
        have h3 : textT l = true := by have := h6 l h1; simpa using this
        exact ⟨l, h1, by rw [long_text h3, h2]; rfl⟩
    by_cases e : mailT m 1 30 = true
    · have hk := key e
      rw [e] at v1 v2
      by_cases e2 : spokeB m = true
      · rw [e2] at v3
        simp only [st_bool, st_int, st_str, st_nilp, st_ptr, st_elt, st_fn, st_sl, st_agg, st_tup, stL_nil, stL_cons, stLL_nil, stLL_cons, strip_strip, stripL_stripL, stripLL_stripLL, fz_bool, fz_int, fz_str, fz_sl, fz_agg, fz_fn0, fz_fn, fz_ptr, fz_elt, fz1_ptr, map_nil', map_cons', app_nil', app_cons', np_bool, np_int, np_str, np_sl, np_agg, np_elt, np_fn, npL_nil, npL_cons, npLL_nil, npLL_cons, d_bool, d_int, d_str, d_sl, d_agg, d_tup, dL_nil, dL_cons, dLL_nil, dLL_cons, sc_bool, sc_int, sc_str, sc_tup, s1_bool, s1_int, s1_str, al_nil, al_cons, an_tt, bind_s, id_s, if_bool, if_t, if_f, in_0, in_1, in_2, in_3, in_4, gt_0, gt_1, gt_2, gt_3, gt_4, gt_5, gt_6, gt_7, gt_8, gt_9, gt_10, gd_z, gd_1, gd_2, gd_3, gd_4, gd_5, gd_6, gd_7, gd_8, gd_9, gt_11, gt_12, gt_13, gt_14, gt_15, gd_10, gd_11, gd_12, gd_13, gd_14, gd_15, n_lss, n_leq, n_gtr, n_geq, n_eql, n_neq, n_not, b_eql, b_neq, t_eql, t_neq, t_len, v_len, t_str, ld_elt, extB_index, extB_count, v_nilf, v_nilp, v_nile, v_offp, v_offe, o_int, o_bool, o_str, o_sl, o_ptr, o_fn, ow_t, cl_fn, ex_0, ex_1, ex_2, sa_0, sa_1, sa_2, vT_len, vB_len, vI_len, vT_strip, vB_strip, vI_strip, vT_np, vB_np, vI_np, vT_data, vB_data, vI_data, vT_esz, vB_esz, vI_esz, ag_2, ag_3, ag_6, ag_7, le_2, le_3, le_6, le_at0, le_at1, le_at2, em_e, es_e, ex_e, cM_e, cS_e, cX_e, vR_len, vR_strip, vR_np, vR_data, vR_esz3, vR_esz2, ob_len, st_obs, np_obs, Nat.zero_add, if_true, if_false, decide_true, decide_false, Bool.false_eq_true, Bool.not_true, Bool.not_false, cO_e, v1, v2, v3]
        refine loop _ _ _ _ (fun H => ?_) _ _ _ rfl rfl rfl
        have : m.lines.any longL = false := by rw [e2] at hk; cases h : m.lines.any longL with | false => rfl | true => rw [h] at hk; cases hk
        simp only [st_bool, st_int, st_str, st_nilp, st_ptr, st_elt, st_fn, st_sl, st_agg, st_tup, stL_nil, stL_cons, stLL_nil, stLL_cons, strip_strip, stripL_stripL, stripLL_stripLL, fz_bool, fz_int, fz_str, fz_sl, fz_agg, fz_fn0, fz_fn, fz_ptr, fz_elt, fz1_ptr, map_nil', map_cons', app_nil', app_cons', np_bool, np_int, np_str, np_sl, np_agg, np_elt, np_fn, npL_nil, npL_cons, npLL_nil, npLL_cons, d_bool, d_int, d_str, d_sl, d_agg, d_tup, dL_nil, dL_cons, dLL_nil, dLL_cons, sc_bool, sc_int, sc_str, sc_tup, s1_bool, s1_int, s1_str, al_nil, al_cons, an_tt, bind_s, id_s, if_bool, if_t, if_f, in_0, in_1, in_2, in_3, in_4, gt_0, gt_1, gt_2, gt_3, gt_4, gt_5, gt_6, gt_7, gt_8, gt_9, gt_10, gd_z, gd_1, gd_2, gd_3, gd_4, gd_5, gd_6, gd_7, gd_8, gd_9, gt_11, gt_12, gt_13, gt_14, gt_15, gd_10, gd_11, gd_12, gd_13, gd_14, gd_15, n_lss, n_leq, n_gtr, n_geq, n_eql, n_neq, n_not, b_eql, b_neq, t_eql, t_neq, t_len, v_len, t_str, ld_elt, extB_index, extB_count, v_nilf, v_nilp, v_nile, v_offp, v_offe, o_int, o_bool, o_str, o_sl, o_ptr, o_fn, ow_t, cl_fn, ex_0, ex_1, ex_2, sa_0, sa_1, sa_2, vT_len, vB_len, vI_len, vT_strip, vB_strip, vI_strip, vT_np, vB_np, vI_np, vT_data, vB_data, vI_data, vT_esz, vB_esz, vI_esz, ag_2, ag_3, ag_6, ag_7, le_2, le_3, le_6, le_at0, le_at1, le_at2, em_e, es_e, ex_e, cM_e, cS_e, cX_e, vR_len, vR_strip, vR_np, vR_data, vR_esz3, vR_esz2, ob_len, st_obs, np_obs, Nat.zero_add, if_true, if_false, decide_true, decide_false, Bool.false_eq_true, Bool.not_true, Bool.not_false, this]
        exact Gets.here rfl
      · have e2' : spokeB m = false := by simpa using e2
        rw [e2'] at v3
        simp only [st_bool, st_int, st_str, st_nilp, st_ptr, st_elt, st_fn, st_sl, st_agg, st_tup, stL_nil, stL_cons, stLL_nil, stLL_cons, strip_strip, stripL_stripL, stripLL_stripLL, fz_bool, fz_int, fz_str, fz_sl, fz_agg, fz_fn0, fz_fn, fz_ptr, fz_elt, fz1_ptr, map_nil', map_cons', app_nil', app_cons', np_bool, np_int, np_str, np_sl, np_agg, np_elt, np_fn, npL_nil, npL_cons, npLL_nil, npLL_cons, d_bool, d_int, d_str, d_sl, d_agg, d_tup, dL_nil, dL_cons, dLL_nil, dLL_cons, sc_bool, sc_int, sc_str, sc_tup, s1_bool, s1_int, s1_str, al_nil, al_cons, an_tt, bind_s, id_s, if_bool, if_t, if_f, in_0, in_1, in_2, in_3, in_4, gt_0, gt_1, gt_2, gt_3, gt_4, gt_5, gt_6, gt_7, gt_8, gt_9, gt_10, gd_z, gd_1, gd_2, gd_3, gd_4, gd_5, gd_6, gd_7, gd_8, gd_9, gt_11, gt_12, gt_13, gt_14, gt_15, gd_10, gd_11, gd_12, gd_13, gd_14, gd_15, n_lss, n_leq, n_gtr, n_geq, n_eql, n_neq, n_not, b_eql, b_neq, t_eql, t_neq, t_len, v_len, t_str, ld_elt, extB_index, extB_count, v_nilf, v_nilp, v_nile, v_offp, v_offe, o_int, o_bool, o_str, o_sl, o_ptr, o_fn, ow_t, cl_fn, ex_0, ex_1, ex_2, sa_0, sa_1, sa_2, vT_len, vB_len, vI_len, vT_strip, vB_strip, vI_strip, vT_np, vB_np, vI_np, vT_data, vB_data, vI_data, vT_esz, vB_esz, vI_esz, ag_2, ag_3, ag_6, ag_7, le_2, le_3, le_6, le_at0, le_at1, le_at2, em_e, es_e, ex_e, cM_e, cS_e, cX_e, vR_len, vR_strip, vR_np, vR_data, vR_esz3, vR_esz2, ob_len, st_obs, np_obs, Nat.zero_add, if_true, if_false, decide_true, decide_false, Bool.false_eq_true, Bool.not_true, Bool.not_false, cO_e, v1, v2, v3]
        refine loop _ _ _ _ (fun H => ?_) _ _ _ rfl rfl rfl
        have : m.lines.any longL = true := by rw [e2'] at hk; cases h : m.lines.any longL with | true => rfl | false => rw [h] at hk; cases hk
        simp only [st_bool, st_int, st_str, st_nilp, st_ptr, st_elt, st_fn, st_sl, st_agg, st_tup, stL_nil, stL_cons, stLL_nil, stLL_cons, strip_strip, stripL_stripL, stripLL_stripLL, fz_bool, fz_int, fz_str, fz_sl, fz_agg, fz_fn0, fz_fn, fz_ptr, fz_elt, fz1_ptr, map_nil', map_cons', app_nil', app_cons', np_bool, np_int, np_str, np_sl, np_agg, np_elt, np_fn, npL_nil, npL_cons, npLL_nil, npLL_cons, d_bool, d_int, d_str, d_sl, d_agg, d_tup, dL_nil, dL_cons, dLL_nil, dLL_cons, sc_bool, sc_int, sc_str, sc_tup, s1_bool, s1_int, s1_str, al_nil, al_cons, an_tt, bind_s, id_s, if_bool, if_t, if_f, in_0, in_1, in_2, in_3, in_4, gt_0, gt_1, gt_2, gt_3, gt_4, gt_5, gt_6, gt_7, gt_8, gt_9, gt_10, gd_z, gd_1, gd_2, gd_3, gd_4, gd_5, gd_6, gd_7, gd_8, gd_9, gt_11, gt_12, gt_13, gt_14, gt_15, gd_10, gd_11, gd_12, gd_13, gd_14, gd_15, n_lss, n_leq, n_gtr, n_geq, n_eql, n_neq, n_not, b_eql, b_neq, t_eql, t_neq, t_len, v_len, t_str, ld_elt, extB_index, extB_count, v_nilf, v_nilp, v_nile, v_offp, v_offe, o_int, o_bool, o_str, o_sl, o_ptr, o_fn, ow_t, cl_fn, ex_0, ex_1, ex_2, sa_0, sa_1, sa_2, vT_len, vB_len, vI_len, vT_strip, vB_strip, vI_strip, vT_np, vB_np, vI_np, vT_data, vB_data, vI_data, vT_esz, vB_esz, vI_esz, ag_2, ag_3, ag_6, ag_7, le_2, le_3, le_6, le_at0, le_at1, le_at2, em_e, es_e, ex_e, cM_e, cS_e, cX_e, vR_len, vR_strip, vR_np, vR_data, vR_esz3, vR_esz2, ob_len, st_obs, np_obs, Nat.zero_add, if_true, if_false, decide_true, decide_false, Bool.false_eq_true, Bool.not_true, Bool.not_false, this]
        exact Gets.here rfl
    · have e' : mailT m 1 30 = false := by simpa using e
      have hs : spokeB m = false := by unfold spokeB; rw [e']; rfl
      rw [e'] at v1 v2
      rw [hs] at v3
      simp only [st_bool, st_int, st_str, st_nilp, st_ptr, st_elt, st_fn, st_sl, st_agg, st_tup, stL_nil, stL_cons, stLL_nil, stLL_cons, strip_strip, stripL_stripL, stripLL_stripLL, fz_bool, fz_int, fz_str, fz_sl, fz_agg, fz_fn0, fz_fn, fz_ptr, fz_elt, fz1_ptr, map_nil', map_cons', app_nil', app_cons', np_bool, np_int, np_str, np_sl, np_agg, np_elt, np_fn, npL_nil, npL_cons, npLL_nil, npLL_cons, d_bool, d_int, d_str, d_sl, d_agg, d_tup, dL_nil, dL_cons, dLL_nil, dLL_cons, sc_bool, sc_int, sc_str, sc_tup, s1_bool, s1_int, s1_str, al_nil, al_cons, an_tt, bind_s, id_s, if_bool, if_t, if_f, in_0, in_1, in_2, in_3, in_4, gt_0, gt_1, gt_2, gt_3, gt_4, gt_5, gt_6, gt_7, gt_8, gt_9, gt_10, gd_z, gd_1, gd_2, gd_3, gd_4, gd_5, gd_6, gd_7, gd_8, gd_9, gt_11, gt_12, gt_13, gt_14, gt_15, gd_10, gd_11, gd_12, gd_13, gd_14, gd_15, n_lss, n_leq, n_gtr, n_geq, n_eql, n_neq, n_not, b_eql, b_neq, t_eql, t_neq, t_len, v_len, t_str, ld_elt, extB_index, extB_count, v_nilf, v_nilp, v_nile, v_offp, v_offe, o_int, o_bool, o_str, o_sl, o_ptr, o_fn, ow_t, cl_fn, ex_0, ex_1, ex_2, sa_0, sa_1, sa_2, vT_len, vB_len, vI_len, vT_strip, vB_strip, vI_strip, vT_np, vB_np, vI_np, vT_data, vB_data, vI_data, vT_esz, vB_esz, vI_esz, ag_2, ag_3, ag_6, ag_7, le_2, le_3, le_6, le_at0, le_at1, le_at2, em_e, es_e, ex_e, cM_e, cS_e, cX_e, vR_len, vR_strip, vR_np, vR_data, vR_esz3, vR_esz2, ob_len, st_obs, np_obs, Nat.zero_add, if_true, if_false, decide_true, decide_false, Bool.false_eq_true, Bool.not_true, Bool.not_false, cO_e, v1, v2, v3]
      refine loop _ _ _ _ (fun H => ?_) _ _ _ rfl rfl rfl
      simp only [st_bool, st_int, st_str, st_nilp, st_ptr, st_elt, st_fn, st_sl, st_agg, st_tup, stL_nil, stL_cons, stLL_nil, stLL_cons, strip_strip, stripL_stripL, stripLL_stripLL, fz_bool, fz_int, fz_str, fz_sl, fz_agg, fz_fn0, fz_fn, fz_ptr, fz_elt, fz1_ptr, map_nil', map_cons', app_nil', app_cons', np_bool, np_int, np_str, np_sl, np_agg, np_elt, np_fn, npL_nil, npL_cons, npLL_nil, npLL_cons, d_bool, d_int, d_str, d_sl, d_agg, d_tup, dL_nil, dL_cons, dLL_nil, dLL_cons, sc_bool, sc_int, sc_str, sc_tup, s1_bool, s1_int, s1_str, al_nil, al_cons, an_tt, bind_s, id_s, if_bool, if_t, if_f, in_0, in_1, in_2, in_3, in_4, gt_0, gt_1, gt_2, gt_3, gt_4, gt_5, gt_6, gt_7, gt_8, gt_9, gt_10, gd_z, gd_1, gd_2, gd_3, gd_4, gd_5, gd_6, gd_7, gd_8, gd_9, gt_11, gt_12, gt_13, gt_14, gt_15, gd_10, gd_11, gd_12, gd_13, gd_14, gd_15, n_lss, n_leq, n_gtr, n_geq, n_eql, n_neq, n_not, b_eql, b_neq, t_eql, t_neq, t_len, v_len, t_str, ld_elt, extB_index, extB_count, v_nilf, v_nilp, v_nile, v_offp, v_offe, o_int, o_bool, o_str, o_sl, o_ptr, o_fn, ow_t, cl_fn, ex_0, ex_1, ex_2, sa_0, sa_1, sa_2, vT_len, vB_len, vI_len, vT_strip, vB_strip, vI_strip, vT_np, vB_np, vI_np, vT_data, vB_data, vI_data, vT_esz, vB_esz, vI_esz, ag_2, ag_3, ag_6, ag_7, le_2, le_3, le_6, le_at0, le_at1, le_at2, em_e, es_e, ex_e, cM_e, cS_e, cX_e, vR_len, vR_strip, vR_np, vR_data, vR_esz3, vR_esz2, ob_len, st_obs, np_obs, Nat.zero_add, if_true, if_false, decide_true, decide_false, Bool.false_eq_true, Bool.not_true, Bool.not_false]
      exact Gets.here rfl


end Go.Proofs.YtemfiddemagflaaDoor.Q
