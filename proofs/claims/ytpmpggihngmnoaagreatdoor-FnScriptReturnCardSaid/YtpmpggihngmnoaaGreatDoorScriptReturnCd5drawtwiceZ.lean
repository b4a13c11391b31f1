/- Contracts: mails are drawn, whatever lies beside. -/
import Derived.Test.YtpmpggihngmnoaaGreatDoorScriptReturnCd3passZ
namespace Go.Proofs.YtpmpggihngmnoaaGreatDoor.Q
open Go Go.AM
set_option linter.unusedSimpArgs false
set_option linter.unusedVariables false
set_option linter.unusedSectionVars false
theorem pick_d (o : Bool) (xs : Bs) (p n : Nat) (hx : xs.length <= 2000) (hp : p <= 900000000) (hn : 1 <= n) (hn2 : n <= 1000000) : ∃ i : Nat, i < n /\ ∀ k H, H[k]? = some (rdr o xs p) -> ∃ H', cv id_spec_l13Rd_pick [.ptr k 0, .int .i64 (n : Int)] H = some (.int .i64 (i : Nat), H') /\ H'[k]? = some (rdr o xs (p + 1)) :=
 ⟨_, pickN_lt xs p n hn, fun k H h => ⟨_, pick_c h hn (by omega) (by omega) hx, by rw [List.getElem?_set, if_pos rfl, if_pos (List.getElem?_eq_some_iff.1 h).1]⟩⟩
theorem of_d (o : Bool) (xs : Bs) (p : Nat) (w : Bool) {l : List (List V)} (hx : xs.length <= 2000) (hp : p <= 900000000) (ht : okT l = true) : ∃ s, s.length <= 200 /\ ∀ k H, H[k]? = some (rdr o xs p) -> ∃ H', cv id_spec_l13Rd_of [.ptr k 0, .sl w l] H = some (.str s, H') /\ H'[k]? = some (rdr o xs (p + 1)) := by
 simp only [okT, Bool.and_eq_true, beq_iff_eq, decide_eq_true_eq, List.all_eq_true] at ht
 obtain ⟨⟨⟨t1, t2⟩, t3⟩, t4⟩ := ht
 have hlt := pickN_lt xs p (unT l).length (by omega)
 have hm : (unT l).getD (pickN xs p (unT l).length) [] ∈ unT l := by
  rw [List.getD_eq_getElem?_getD, List.getElem?_eq_getElem hlt]; exact List.getElem_mem hlt
 refine ⟨_, t2 _ hm, fun k H h => ?_⟩
 have e := of_c (o' := w) (l := unT l) h (by omega) (by omega) (by omega) hx
 rw [unT_eq t1] at e
 exact ⟨_, e, by rw [List.getElem?_set, if_pos rfl, if_pos (List.getElem?_eq_some_iff.1 h).1]⟩
theorem num_d (o : Bool) (xs : Bs) (p : Nat) (w : Bool) {l : List (List V)} (hx : xs.length <= 2000) (hp : p <= 900000000) (ht : okI l = true) : ∃ s, s ∈ unI l /\ ∀ k H, H[k]? = some (rdr o xs p) -> ∃ H', cv id_spec_l13Rd_num [.ptr k 0, .sl w l] H = some (.int .i64 s, H') /\ H'[k]? = some (rdr o xs (p + 1)) := by
 simp only [okI, Bool.and_eq_true, beq_iff_eq, decide_eq_true_eq] at ht
 obtain ⟨⟨t1, t3⟩, t4⟩ := ht
 have hlt := pickN_lt xs p (unI l).length (by omega)
 have hm : (unI l).getD (pickN xs p (unI l).length) 0 ∈ unI l := by
  rw [List.getD_eq_getElem?_getD, List.getElem?_eq_getElem hlt]; exact List.getElem_mem hlt
 refine ⟨_, hm, fun k H h => ?_⟩
 have e := num_c (o' := w) (l := unI l) h (by omega) (by omega) (by omega) hx
 rw [unI_eq t1] at e
 exact ⟨_, e, by rw [List.getElem?_set, if_pos rfl, if_pos (List.getElem?_eq_some_iff.1 h).1]⟩
theorem DrawMail_d (o : Bool) (xs : Bs) (p : Nat) (hx : xs.length <= 2000) (hp : p <= 800000000) : ∃ m q, TnM m /\ m.lines.length <= 10 /\ q <= p + 20 /\ ∀ k H, H[k]? = some (rdr o xs p) -> ∃ H', cv id_spec_l10DrawMail [.ptr k 0] H = some (.agg (cO m), H') /\ H'[k]? = some (rdr o xs q) := by
 have loop0 : ∀ (n p : Nat) (f : Bs) (to : List Bs), n <= 3 -> p + n <= 800000100 -> TnT (10 - n) to -> ∃ to' q, TnT 10 to' /\ q <= p + n /\ ∀ k H, H[k]? = some (rdr o xs p) -> ∃ H', lpW' spec_l10DrawMail_l3 [.ptr k 0, .int .i64 (n : Nat), .str [], .sl true [], .sl true [], .str f, .sl true (vT to), .sl true []] H = some (0, [.ptr k 0, .str [], .sl true [], .sl true [], .str f, .sl true (vT to'), .sl true []], H') /\ H'[k]? = some (rdr o xs q) := by
  intro n
  induction n with
  | zero =>
    intro p f to hn hp hto
    refine ⟨to, p, hto.le (by omega), by omega, fun k H h => ⟨H, lv_stop ?_, h⟩⟩
    rw [spec_l10DrawMail_l3_eq]
    simp only [evv]
    rfl
  | succ n ih =>
    intro p f to hn hp hto
    obtain ⟨s, hs, h1⟩ := of_d o xs p false (l := [[(.str [98, 111, 98, 64, 121, 46, 111, 114, 103])], [(.str [99, 121, 64, 120, 46, 111, 114, 103])], [(.str [66, 111, 98, 64, 121, 46, 111, 114, 103])]]) hx (by omega) (by decide)
    obtain ⟨to', q, h2, h3, h4⟩ := ih (p + 1) f (to ++ [s]) (by omega) (by omega) ((hto.add hs).le (by omega))
    refine ⟨to', q, h2, by omega, fun k H h => ?_⟩
    obtain ⟨H1, e1, h5⟩ := h1 k H h
    obtain ⟨H2, e2, h6⟩ := h4 k H1 h5
    have a1 := app1 hto (by omega) s
    have a2 : vBinV (.int .i64) .sub (.int .i64 ((n + 1 : Nat) : Int)) (.int .i64 1) = some (.int .i64 (n : Nat)) := n_subN _ (n + 1) 1 (by omega) (by omega)
    refine ⟨H2, (lv_more ?_).trans e2, h6⟩
    rw [spec_l10DrawMail_l3_eq]
    simp only [evv, show (((n + 1 : Nat) : Int) > 0) from by omega, e1, a1, a2]
 have loop1 : ∀ (n p : Nat) (f : Bs) (to ls : List Bs), n <= 3 -> p + n <= 800000100 -> TnT (10 - n) ls -> ∃ ls' q, TnT 10 ls' /\ q <= p + n /\ ∀ k H, H[k]? = some (rdr o xs p) -> ∃ H', lpW' spec_l10DrawMail_l7 [.ptr k 0, .int .i64 (n : Nat), .str [], .sl true [], .sl true [], .str f, .sl true (vT to), .sl true (vT ls)] H = some (0, [.str [], .sl true [], .sl true [], .str f, .sl true (vT to), .sl true (vT ls')], H') /\ H'[k]? = some (rdr o xs q) := by
  intro n
  induction n with
  | zero =>
    intro p f to ls hn hp hls
    refine ⟨ls, p, hls.le (by omega), by omega, fun k H h => ⟨H, lv_stop ?_, h⟩⟩
    rw [spec_l10DrawMail_l7_eq]
    simp only [evv]
    rfl
  | succ n ih =>
    intro p f to ls hn hp hls
    obtain ⟨s, hs, h1⟩ := of_d o xs p false (l := [[(.str [83, 117, 98, 106, 101, 99, 116, 58, 32, 120])], [(.str [])], [(.str [116, 101, 120, 116])], [(.str [46])], [(.str [46, 97])], [(.str [82, 101, 99, 101, 105, 118, 101, 100, 58, 32, 98, 121, 32, 104])]]) hx (by omega) (by decide)
    obtain ⟨ls', q, h2, h3, h4⟩ := ih (p + 1) f to (ls ++ [s]) (by omega) (by omega) ((hls.add hs).le (by omega))
    refine ⟨ls', q, h2, by omega, fun k H h => ?_⟩
    obtain ⟨H1, e1, h5⟩ := h1 k H h
    obtain ⟨H2, e2, h6⟩ := h4 k H1 h5
    have a1 := app1 hls (by omega) s
    have a2 : vBinV (.int .i64) .sub (.int .i64 ((n + 1 : Nat) : Int)) (.int .i64 1) = some (.int .i64 (n : Nat)) := n_subN _ (n + 1) 1 (by omega) (by omega)
    refine ⟨H2, (lv_more ?_).trans e2, h6⟩
    rw [spec_l10DrawMail_l7_eq]
    simp only [evv, show (((n + 1 : Nat) : Int) > 0) from by omega, e1, a1, a2]
 obtain ⟨f, hf, f1⟩ := of_d o xs p false (l := [[(.str [97, 110, 110, 64, 120, 46, 111, 114, 103])], [(.str [])], [(.str [98, 46, 99, 64, 100, 46, 101])]]) hx (by omega) (by decide)
 obtain ⟨t, ht, f2⟩ := of_d o xs (p + 1) false (l := [[(.str [98, 111, 98, 64, 121, 46, 111, 114, 103])], [(.str [97, 110, 110, 64, 120, 46, 111, 114, 103])]]) hx (by omega) (by decide)
 obtain ⟨i, hi, f3⟩ := pick_d o xs (p + 2) 3 hx (by omega) (by omega) (by omega)
 obtain ⟨to, q, g1, g2, f4⟩ := loop0 i (p + 3) f [t] (by omega) (by omega) (TnT.one (by omega) ht)
 obtain ⟨j, hj, f5⟩ := num_d o xs q false (l := [[(.int .i64 2)], [(.int .i64 3)], [(.int .i64 1)], [(.int .i64 0)]]) hx (by omega) (by decide)
 obtain ⟨j, rfl, hj3⟩ : ∃ n : Nat, j = n /\ n <= 3 := by
  simp only [unI, List.mem_cons, List.not_mem_nil, or_false] at hj
  rcases hj with rfl | rfl | rfl | rfl
  ·exact ⟨2, rfl, by omega⟩
  ·exact ⟨3, rfl, by omega⟩
  ·exact ⟨1, rfl, by omega⟩
  ·exact ⟨0, rfl, by omega⟩
 obtain ⟨ls, q2, g3, g4, f6⟩ := loop1 j (q + 1) f to [] hj3 (by omega) (TnT.none _)
 refine ⟨⟨f, to, ls⟩, q2, ⟨hf, g1.le (by omega), g3.le (by omega)⟩, g3.1, by omega, fun k H h => ?_⟩
 obtain ⟨H1, e1, h1⟩ := f1 k H h
 obtain ⟨H2, e2, h2⟩ := f2 k H1 h1
 obtain ⟨H3, e3, h3⟩ := f3 k H2 h2
 obtain ⟨H4, e4, h4⟩ := f4 k H3 h3
 obtain ⟨H5, e5, h5⟩ := f5 k H4 h4
 obtain ⟨H6, e6, h6⟩ := f6 k H5 h5
 refine ⟨H6, ?_, h6⟩
 have hv1 : vT [t] = [[.str t]] := rfl
 have hv0 : vT ([] : List Bs) = [] := rfl
 have e3' : cv id_spec_l13Rd_pick [.ptr k 0, .int .i64 3] H2 = _ := e3
 rw [hv1] at e4
 rw [hv0] at e6
 rw [spec_l10DrawMail_eq]
 simp only [evv, e1, e2, e3', e4, e5, e6, cO_e]
theorem WrongMail_d (o : Bool) (xs : Bs) (p : Nat) (m : Mail) (hx : xs.length <= 2000) (hp : p <= 800000000) (hm : TnM m) (hl : m.lines.length <= 99) : ∃ m', TnM m' /\ ∀ k H, H[k]? = some (rdr o xs p) -> ∃ H', cv id_spec_l10WrongMail [.ptr k 0, .agg (cM m)] H = some (.agg (cO m'), H') := by
 have e0 := l10Mail_c m hm
 simp only [cM_e, cO_e] at e0
 obtain ⟨i, hi, f1⟩ := pick_d o xs p 20 hx (by omega) (by omega) (by omega)
 obtain ⟨s, hs, f2⟩ := of_d o xs (p + 1) false (l := [[(.str [120])], [(.str [97, 64, 66])], [(.str [60, 62])]]) hx (by omega) (by decide)
 by_cases c0 : i = 0
 ·subst c0
  refine ⟨⟨s, m.to, m.lines⟩, ⟨hs, hm.2.1, hm.2.2⟩, fun k H h => ?_⟩
  obtain ⟨H1, e1, h1⟩ := f1 k H h
  obtain ⟨H2, e2, h2⟩ := f2 k H1 h1
  have e1' : cv id_spec_l13Rd_pick [.ptr k 0, .int .i64 20] H = some (.int .i64 0, H1) := e1
  refine ⟨H2, ?_⟩
  rw [spec_l10WrongMail_eq]
  simp only [cM_e, evv, e0, e1', e2, cO_e, vo_str]
 by_cases c1 : i = 1
 ·subst c1
  refine ⟨⟨m.from_, [], m.lines⟩, ⟨hm.1, TnT.none _, hm.2.2⟩, fun k H h => ?_⟩
  obtain ⟨H1, e1, h1⟩ := f1 k H h
  have e1' : cv id_spec_l13Rd_pick [.ptr k 0, .int .i64 20] H = some (.int .i64 1, H1) := e1
  refine ⟨H1, ?_⟩
  rw [spec_l10WrongMail_eq]
  simp only [cM_e, evv, e0, e1', cO_e, show ¬ ((1 : Int) = 0) from by omega]
  rfl
 by_cases c2 : i = 2
 ·subst c2
  have a1 := app1 hm.2.2 (by omega) [10]
  refine ⟨⟨m.from_, m.to, m.lines ++ [[10]]⟩, ⟨hm.1, hm.2.1, ⟨by simp; omega, fun s hs => by rcases List.mem_append.1 hs with h | h; exact hm.2.2.2 s h; simp at h; subst h; simp⟩⟩, fun k H h => ?_⟩
  obtain ⟨H1, e1, h1⟩ := f1 k H h
  have e1' : cv id_spec_l13Rd_pick [.ptr k 0, .int .i64 20] H = some (.int .i64 2, H1) := e1
  refine ⟨H1, ?_⟩
  rw [spec_l10WrongMail_eq]
  simp only [cM_e, evv, e0, e1', a1, cO_e, show ¬ ((2 : Int) = 0) from by omega, show ¬ ((2 : Int) = 1) from by omega]
 ·refine ⟨m, hm, fun k H h => ?_⟩
  obtain ⟨H1, e1, h1⟩ := f1 k H h
  have e1' : cv id_spec_l13Rd_pick [.ptr k 0, .int .i64 20] H = some (.int .i64 (i : Nat), H1) := e1
  refine ⟨H1, ?_⟩
  rw [spec_l10WrongMail_eq]
  simp only [cM_e, evv, e0, e1', cO_e, show ¬ (((i : Nat) : Int) = 0) from by omega, show ¬ (((i : Nat) : Int) = 1) from by omega, show ¬ (((i : Nat) : Int) = 2) from by omega]
theorem DrawCountHops_d (xs : Bs) : ∃ m, TnM m /\ ∀ H, ∃ H', cv id_spec_DrawCountHops [.sl false (vB xs)] H = some (.agg (cO m), H') := by
 obtain ⟨m, q, h1, h2, h3, h4⟩ := DrawMail_d false (xs.take 2000) 0 (by simp; omega) (by omega)
 obtain ⟨m', h5, h6⟩ := WrongMail_d false (xs.take 2000) q m (by simp; omega) (by omega) h1 (by omega)
 refine ⟨m', h5, fun H => ?_⟩
 have e0 := l13Open_c xs H
 obtain ⟨H1, e1, g1⟩ := h4 H.length (H ++ [rdr false (xs.take 2000) 0]) (by simp)
 obtain ⟨H2, e2⟩ := h6 H.length H1 g1
 simp only [cM_e] at e2
 refine ⟨H2, ?_⟩
 rw [spec_DrawCountHops_eq, spec_DrawSpeakMail_eq]
 simp only [evv, e0, e1, cO_e, e2]
end Go.Proofs.YtpmpggihngmnoaaGreatDoor.Q
