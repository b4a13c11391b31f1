/- Contracts: drawing out of lists; replies. -/
import Derived.Test.YtgpfabgnlpdpdaaQC1Z
import Derived.Test.YtgpfabgnlpdpdaaK4
import Derived.KernelRfl
namespace Go.Proofs.Ytgpfabgnlpdpdaa.Q
open Go Go.AM
set_option linter.unusedSimpArgs false
set_option linter.unusedVariables false

theorem num_c {H : VH} {k p : Nat} {o o' : Bool} {xs : List UInt8} {l : List Int} (h : H[k]? = some (rdr o xs p)) (hl : 1 ≤ l.length) (hl2 : l.length ≤ 1000000) (hp : p ≤ 1000000000) (hx : xs.length ≤ 2000) :
    cv id_spec_l13Rd_num [.ptr k 0, .sl o' (vI .i64 l)] H = some (.int .i64 (l.getD (pickN xs p l.length) 0), H.set k (rdr o xs (p + 1))) := by
  have hp := pick_c h hl (by omega) hp hx
  have hlt := pickN_lt xs p l.length hl
  have hi := vI_idx o' .i64 l .i64 (pickN xs p l.length) hlt
  have hg : l.getD (pickN xs p l.length) 0 = l[pickN xs p l.length] := by rw [List.getD_eq_getElem?_getD, List.getElem?_eq_getElem hlt]; rfl
  rw [spec_l13Rd_num_eq]
  simp only [st_bool, st_int, st_str, st_nilp, st_ptr, st_elt, st_fn, st_sl, st_agg, st_tup, stL_nil, stL_cons, stLL_nil, stLL_cons, strip_strip, stripL_stripL, stripLL_stripLL, fz_bool, fz_int, fz_str, fz_sl, fz_agg, fz_fn0, fz_fn, fz_ptr, fz_elt, fz1_ptr, map_nil', map_cons', app_nil', app_cons', np_bool, np_int, np_str, np_sl, np_agg, np_elt, np_fn, npL_nil, npL_cons, npLL_nil, npLL_cons, d_bool, d_int, d_str, d_sl, d_agg, d_tup, dL_nil, dL_cons, dLL_nil, dLL_cons, sc_bool, sc_int, sc_str, sc_tup, s1_bool, s1_int, s1_str, al_nil, al_cons, an_tt, bind_s, id_s, if_bool, if_t, if_f, in_0, in_1, in_2, in_3, in_4, gt_0, gt_1, gt_2, gt_3, gt_4, gt_5, gt_6, gt_7, gt_8, gt_9, gt_10, gd_z, gd_1, gd_2, gd_3, gd_4, gd_5, gd_6, gd_7, gd_8, gd_9, n_lss, n_leq, n_gtr, n_geq, n_eql, n_neq, n_not, t_eql, t_neq, t_len, v_len, t_str, ld_elt, v_nilf, v_nilp, v_nile, v_offp, v_offe, o_int, o_bool, o_str, o_sl, o_ptr, o_fn, ow_t, cl_fn, ex_0, ex_1, ex_2, sa_0, sa_1, sa_2, vT_len, vB_len, vI_len, vT_strip, vB_strip, vI_strip, vT_np, vB_np, vI_np, vT_data, vB_data, vI_data, vT_esz, vB_esz, vI_esz, Nat.zero_add, if_true, if_false, decide_true, decide_false, Bool.false_eq_true, Bool.not_true, Bool.not_false, hp, hi, hg]

/-- The text of a reply. -/
def replyText (n : Int) : List UInt8 :=
  if n = 221 then [50, 50, 49, 32, 98, 121, 101]
  else if n = 250 then [50, 53, 48, 32, 111, 107]
  else if n = 354 then [51, 53, 52, 32, 103, 111, 32, 111, 110]
  else if n = 452 then [52, 53, 50, 32, 116, 111, 111, 32, 109, 97, 110, 121]
  else if n = 500 then [53, 48, 48, 32, 119, 104, 97, 116]
  else if n = 501 then [53, 48, 49, 32, 104, 111, 119]
  else if n = 503 then [53, 48, 51, 32, 110, 111, 116, 32, 110, 111, 119]
  else if n = 552 then [53, 53, 50, 32, 116, 111, 111, 32, 108, 111, 110, 103]
  else []

theorem impl_ReplyText_c (n : Int) : qc id_impl_ReplyText [.int .i64 n] = some (.str (replyText n)) := by
  refine qc_of (H := []) ?_ rfl rfl
  show cv _ _ _ = _
  rw [impl_ReplyText_eq]
  simp only [st_bool, st_int, st_str, st_nilp, st_ptr, st_elt, st_fn, st_sl, st_agg, st_tup, stL_nil, stL_cons, stLL_nil, stLL_cons, strip_strip, stripL_stripL, stripLL_stripLL, fz_bool, fz_int, fz_str, fz_sl, fz_agg, fz_fn0, fz_fn, fz_ptr, fz_elt, fz1_ptr, map_nil', map_cons', app_nil', app_cons', np_bool, np_int, np_str, np_sl, np_agg, np_elt, np_fn, npL_nil, npL_cons, npLL_nil, npLL_cons, d_bool, d_int, d_str, d_sl, d_agg, d_tup, dL_nil, dL_cons, dLL_nil, dLL_cons, sc_bool, sc_int, sc_str, sc_tup, s1_bool, s1_int, s1_str, al_nil, al_cons, an_tt, bind_s, id_s, if_bool, if_t, if_f, in_0, in_1, in_2, in_3, in_4, gt_0, gt_1, gt_2, gt_3, gt_4, gt_5, gt_6, gt_7, gt_8, gt_9, gt_10, gd_z, gd_1, gd_2, gd_3, gd_4, gd_5, gd_6, gd_7, gd_8, gd_9, n_lss, n_leq, n_gtr, n_geq, n_eql, n_neq, n_not, t_eql, t_neq, t_len, v_len, t_str, ld_elt, v_nilf, v_nilp, v_nile, v_offp, v_offe, o_int, o_bool, o_str, o_sl, o_ptr, o_fn, ow_t, cl_fn, ex_0, ex_1, ex_2, sa_0, sa_1, sa_2, vT_len, vB_len, vI_len, vT_strip, vB_strip, vI_strip, vT_np, vB_np, vI_np, vT_data, vB_data, vI_data, vT_esz, vB_esz, vI_esz, Nat.zero_add, if_true, if_false, decide_true, decide_false, Bool.false_eq_true, Bool.not_true, Bool.not_false, decide_eq_true_eq, replyText]
  iterate 8
    split
    · rfl
  rfl

theorem spec_ReplyText_c (n : Int) : qc id_spec_ReplyText [.int .i64 n] = some (.str (replyText n)) := by
  refine qc_of (H := []) ?_ rfl rfl
  show cv _ _ _ = _
  rw [spec_ReplyText_eq]
  simp only [st_bool, st_int, st_str, st_nilp, st_ptr, st_elt, st_fn, st_sl, st_agg, st_tup, stL_nil, stL_cons, stLL_nil, stLL_cons, strip_strip, stripL_stripL, stripLL_stripLL, fz_bool, fz_int, fz_str, fz_sl, fz_agg, fz_fn0, fz_fn, fz_ptr, fz_elt, fz1_ptr, map_nil', map_cons', app_nil', app_cons', np_bool, np_int, np_str, np_sl, np_agg, np_elt, np_fn, npL_nil, npL_cons, npLL_nil, npLL_cons, d_bool, d_int, d_str, d_sl, d_agg, d_tup, dL_nil, dL_cons, dLL_nil, dLL_cons, sc_bool, sc_int, sc_str, sc_tup, s1_bool, s1_int, s1_str, al_nil, al_cons, an_tt, bind_s, id_s, if_bool, if_t, if_f, in_0, in_1, in_2, in_3, in_4, gt_0, gt_1, gt_2, gt_3, gt_4, gt_5, gt_6, gt_7, gt_8, gt_9, gt_10, gd_z, gd_1, gd_2, gd_3, gd_4, gd_5, gd_6, gd_7, gd_8, gd_9, n_lss, n_leq, n_gtr, n_geq, n_eql, n_neq, n_not, t_eql, t_neq, t_len, v_len, t_str, ld_elt, v_nilf, v_nilp, v_nile, v_offp, v_offe, o_int, o_bool, o_str, o_sl, o_ptr, o_fn, ow_t, cl_fn, ex_0, ex_1, ex_2, sa_0, sa_1, sa_2, vT_len, vB_len, vI_len, vT_strip, vB_strip, vI_strip, vT_np, vB_np, vI_np, vT_data, vB_data, vI_data, vT_esz, vB_esz, vI_esz, Nat.zero_add, if_true, if_false, decide_true, decide_false, Bool.false_eq_true, Bool.not_true, Bool.not_false, decide_eq_true_eq, replyText]
  iterate 8
    split
    · rfl
  rfl

theorem DrawReplyText_c (o : Bool) (xs : List UInt8) : ∃ n ∈ ([250, 221, 354, 452, 500, 501, 503, 552, 0, 251, -1] : List Int), qc id_spec_DrawReplyText [.sl o (vB xs)] = some (.int .i64 n) := by
  have h1 := l13Open_c o xs []
  have h2 := num_c (H := [] ++ [rdr false (xs.take 2000) 0]) (k := 0) (o' := false) (l := [250, 221, 354, 452, 500, 501, 503, 552, 0, 251, -1]) rfl (by decide) (by decide) (by omega) (by simp; omega)
  refine ⟨([250, 221, 354, 452, 500, 501, 503, 552, 0, 251, -1] : List Int).getD (pickN (xs.take 2000) 0 ([250, 221, 354, 452, 500, 501, 503, 552, 0, 251, -1] : List Int).length) 0, ?_, ?_⟩
  · have hlt := pickN_lt (xs.take 2000) 0 ([250, 221, 354, 452, 500, 501, 503, 552, 0, 251, -1] : List Int).length (by decide)
    rw [List.getD_eq_getElem?_getD, List.getElem?_eq_getElem hlt]
    exact List.getElem_mem hlt
  · refine qc_of (H := ([] ++ [rdr false (xs.take 2000) 0]).set 0 (rdr false (xs.take 2000) (0 + 1))) ?_ (by simp only [st_bool, st_int, st_str, st_nilp, st_ptr, st_elt, st_fn, st_sl, st_agg, st_tup, stL_nil, stL_cons, stLL_nil, stLL_cons, strip_strip, stripL_stripL, stripLL_stripLL, fz_bool, fz_int, fz_str, fz_sl, fz_agg, fz_fn0, fz_fn, fz_ptr, fz_elt, fz1_ptr, map_nil', map_cons', app_nil', app_cons', np_bool, np_int, np_str, np_sl, np_agg, np_elt, np_fn, npL_nil, npL_cons, npLL_nil, npLL_cons, d_bool, d_int, d_str, d_sl, d_agg, d_tup, dL_nil, dL_cons, dLL_nil, dLL_cons, sc_bool, sc_int, sc_str, sc_tup, s1_bool, s1_int, s1_str, al_nil, al_cons, an_tt, bind_s, id_s, if_bool, if_t, if_f, in_0, in_1, in_2, in_3, in_4, gt_0, gt_1, gt_2, gt_3, gt_4, gt_5, gt_6, gt_7, gt_8, gt_9, gt_10, gd_z, gd_1, gd_2, gd_3, gd_4, gd_5, gd_6, gd_7, gd_8, gd_9, n_lss, n_leq, n_gtr, n_geq, n_eql, n_neq, n_not, t_eql, t_neq, t_len, v_len, t_str, ld_elt, v_nilf, v_nilp, v_nile, v_offp, v_offe, o_int, o_bool, o_str, o_sl, o_ptr, o_fn, ow_t, cl_fn, ex_0, ex_1, ex_2, sa_0, sa_1, sa_2, vT_len, vB_len, vI_len, vT_strip, vB_strip, vI_strip, vT_np, vB_np, vI_np, vT_data, vB_data, vI_data, vT_esz, vB_esz, vI_esz, Nat.zero_add, if_true, if_false, decide_true, decide_false, Bool.false_eq_true, Bool.not_true, Bool.not_false]) rfl
    show cv _ _ _ = _
    rw [spec_DrawReplyText_eq]
    simp only [vI, List.map_cons, List.map_nil] at h2
    simp only [st_bool, st_int, st_str, st_nilp, st_ptr, st_elt, st_fn, st_sl, st_agg, st_tup, stL_nil, stL_cons, stLL_nil, stLL_cons, strip_strip, stripL_stripL, stripLL_stripLL, fz_bool, fz_int, fz_str, fz_sl, fz_agg, fz_fn0, fz_fn, fz_ptr, fz_elt, fz1_ptr, map_nil', map_cons', app_nil', app_cons', np_bool, np_int, np_str, np_sl, np_agg, np_elt, np_fn, npL_nil, npL_cons, npLL_nil, npLL_cons, d_bool, d_int, d_str, d_sl, d_agg, d_tup, dL_nil, dL_cons, dLL_nil, dLL_cons, sc_bool, sc_int, sc_str, sc_tup, s1_bool, s1_int, s1_str, al_nil, al_cons, an_tt, bind_s, id_s, if_bool, if_t, if_f, in_0, in_1, in_2, in_3, in_4, gt_0, gt_1, gt_2, gt_3, gt_4, gt_5, gt_6, gt_7, gt_8, gt_9, gt_10, gd_z, gd_1, gd_2, gd_3, gd_4, gd_5, gd_6, gd_7, gd_8, gd_9, n_lss, n_leq, n_gtr, n_geq, n_eql, n_neq, n_not, t_eql, t_neq, t_len, v_len, t_str, ld_elt, v_nilf, v_nilp, v_nile, v_offp, v_offe, o_int, o_bool, o_str, o_sl, o_ptr, o_fn, ow_t, cl_fn, ex_0, ex_1, ex_2, sa_0, sa_1, sa_2, vT_len, vB_len, vI_len, vT_strip, vB_strip, vI_strip, vT_np, vB_np, vI_np, vT_data, vB_data, vI_data, vT_esz, vB_esz, vI_esz, Nat.zero_add, if_true, if_false, decide_true, decide_false, Bool.false_eq_true, Bool.not_true, Bool.not_false, h1] at h2 ⊢
    rw [show ([] : VH).length = 0 from rfl, h2]
    rfl

theorem FnReplyText_bytes (o : Bool) (xs : List UInt8) : ∃ H, cv id_laws_FnReplyText [.sl o (vB xs)] [] = some (.bool true, H) := by
  obtain ⟨n, hn, hd⟩ := DrawReplyText_c false xs
  rw [laws_FnReplyText_eq]
  by_cases hl : (xs.length : Int) > 1048576
  · simp only [st_bool, st_int, st_str, st_nilp, st_ptr, st_elt, st_fn, st_sl, st_agg, st_tup, stL_nil, stL_cons, stLL_nil, stLL_cons, strip_strip, stripL_stripL, stripLL_stripLL, fz_bool, fz_int, fz_str, fz_sl, fz_agg, fz_fn0, fz_fn, fz_ptr, fz_elt, fz1_ptr, map_nil', map_cons', app_nil', app_cons', np_bool, np_int, np_str, np_sl, np_agg, np_elt, np_fn, npL_nil, npL_cons, npLL_nil, npLL_cons, d_bool, d_int, d_str, d_sl, d_agg, d_tup, dL_nil, dL_cons, dLL_nil, dLL_cons, sc_bool, sc_int, sc_str, sc_tup, s1_bool, s1_int, s1_str, al_nil, al_cons, an_tt, bind_s, id_s, if_bool, if_t, if_f, in_0, in_1, in_2, in_3, in_4, gt_0, gt_1, gt_2, gt_3, gt_4, gt_5, gt_6, gt_7, gt_8, gt_9, gt_10, gd_z, gd_1, gd_2, gd_3, gd_4, gd_5, gd_6, gd_7, gd_8, gd_9, n_lss, n_leq, n_gtr, n_geq, n_eql, n_neq, n_not, t_eql, t_neq, t_len, v_len, t_str, ld_elt, v_nilf, v_nilp, v_nile, v_offp, v_offe, o_int, o_bool, o_str, o_sl, o_ptr, o_fn, ow_t, cl_fn, ex_0, ex_1, ex_2, sa_0, sa_1, sa_2, vT_len, vB_len, vI_len, vT_strip, vB_strip, vI_strip, vT_np, vB_np, vI_np, vT_data, vB_data, vI_data, vT_esz, vB_esz, vI_esz, Nat.zero_add, if_true, if_false, decide_true, decide_false, Bool.false_eq_true, Bool.not_true, Bool.not_false, hl]
    exact ⟨_, rfl⟩
  · simp only [st_bool, st_int, st_str, st_nilp, st_ptr, st_elt, st_fn, st_sl, st_agg, st_tup, stL_nil, stL_cons, stLL_nil, stLL_cons, strip_strip, stripL_stripL, stripLL_stripLL, fz_bool, fz_int, fz_str, fz_sl, fz_agg, fz_fn0, fz_fn, fz_ptr, fz_elt, fz1_ptr, map_nil', map_cons', app_nil', app_cons', np_bool, np_int, np_str, np_sl, np_agg, np_elt, np_fn, npL_nil, npL_cons, npLL_nil, npLL_cons, d_bool, d_int, d_str, d_sl, d_agg, d_tup, dL_nil, dL_cons, dLL_nil, dLL_cons, sc_bool, sc_int, sc_str, sc_tup, s1_bool, s1_int, s1_str, al_nil, al_cons, an_tt, bind_s, id_s, if_bool, if_t, if_f, in_0, in_1, in_2, in_3, in_4, gt_0, gt_1, gt_2, gt_3, gt_4, gt_5, gt_6, gt_7, gt_8, gt_9, gt_10, gd_z, gd_1, gd_2, gd_3, gd_4, gd_5, gd_6, gd_7, gd_8, gd_9, n_lss, n_leq, n_gtr, n_geq, n_eql, n_neq, n_not, t_eql, t_neq, t_len, v_len, t_str, ld_elt, v_nilf, v_nilp, v_nile, v_offp, v_offe, o_int, o_bool, o_str, o_sl, o_ptr, o_fn, ow_t, cl_fn, ex_0, ex_1, ex_2, sa_0, sa_1, sa_2, vT_len, vB_len, vI_len, vT_strip, vB_strip, vI_strip, vT_np, vB_np, vI_np, vT_data, vB_data, vI_data, vT_esz, vB_esz, vI_esz, Nat.zero_add, if_true, if_false, decide_true, decide_false, Bool.false_eq_true, Bool.not_true, Bool.not_false, hl, hd, impl_ReplyText_c, spec_ReplyText_c]
    simp only [List.mem_cons, List.not_mem_nil, or_false] at hn
    rcases hn with rfl | rfl | rfl | rfl | rfl | rfl | rfl | rfl | rfl | rfl | rfl <;> exact ⟨_, rfl⟩

theorem FnReplyText_v (u : V) (h : HasArg (.sl (.int .u8)) u) : ∃ H, cv id_laws_FnReplyText [u] [] = some (.bool true, H) := by
  obtain ⟨xs, rfl, _⟩ := arg_bytes h
  exact FnReplyText_bytes false xs

end Go.Proofs.Ytgpfabgnlpdpdaa.Q
