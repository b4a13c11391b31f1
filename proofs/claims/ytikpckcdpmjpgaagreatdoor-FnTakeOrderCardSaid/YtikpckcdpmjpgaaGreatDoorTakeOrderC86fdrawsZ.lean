/- Contracts: draws that leave all but the reader as it was. -/
import Derived.Test.YtikpckcdpmjpgaaGreatDoorTakeOrderC84normalZ
namespace Go.Proofs.YtikpckcdpmjpgaaGreatDoor.Q
open Go Go.AM
set_option linter.unusedSimpArgs false
set_option linter.unusedVariables false
set_option linter.unusedSectionVars false
def Rf (F : VH) (k b : Nat) (H : VH) : Prop := Rd k b H ∧ F.length ≤ H.length ∧ ∀ j, j ≠ k → j < F.length → H[j]? = F[j]?
theorem Rf.le {F : VH} {k b b' : Nat} {H : VH} (h : Rf F k b H) (hb : b ≤ b') : Rf F k b' H := ⟨h.1.le hb, h.2⟩
theorem Rf.refl {k b : Nat} {H : VH} (h : Rd k b H) : Rf H k b H := ⟨h, Nat.le_refl _, fun _ _ _ => rfl⟩
theorem Rf.set {F : VH} {k b b' : Nat} {H : VH} {x : List V} (h : Rf F k b H) (g : Rd k b' (H.set k x)) : Rf F k b' (H.set k x) :=
  ⟨g, by rw [List.length_set]; exact h.2.1, fun j hj hl => by rw [List.getElem?_set_ne (Ne.symm hj)]; exact h.2.2 j hj hl⟩
theorem Rf.trans {F G : VH} {k b b' : Nat} {H : VH} (h : Rf F k b G) (g : Rf G k b' H) : Rf F k b' H :=
  ⟨g.1, Nat.le_trans h.2.1 g.2.1, fun j hj hl => by rw [g.2.2 j hj (by have := h.2.1; omega)]; exact h.2.2 j hj hl⟩
theorem pick_f {F : VH} {k b n : Nat} {H : VH} (hR : Rf F k b H) (hb : b ≤ 900000000) (hn : 1 ≤ n) (hn2 : n ≤ 1000000) : Gets2 (cv id_spec_l13Rd_pick [.ptr k 0, .int .i64 (n : Int)] H) (fun v H' => ∃ i : Nat, v = .int .i64 (i : Nat) ∧ i < n ∧ Rf F k (b + 1) H') := by
  have hR0 := hR
  obtain ⟨⟨o, xs, p, h1, h2, h3⟩, _⟩ := hR
  have e := pick_c h1 hn (by omega) (by omega) h3
  exact ⟨_, _, e, _, rfl, pickN_lt _ _ _ hn, hR0.set ⟨o, xs, p + 1, by rw [List.getElem?_set, if_pos rfl, if_pos (List.getElem?_eq_some_iff.1 h1).1], by omega, h3⟩⟩
theorem of_f {F : VH} {k b : Nat} {o : Bool} {l : List (List V)} {H : VH} (hR : Rf F k b H) (hb : b ≤ 900000000) (ht : okT l = true) : Gets2 (cv id_spec_l13Rd_of [.ptr k 0, .sl o l] H) (fun v H' => ∃ s, v = .str s ∧ s ∈ unT l ∧ s.length ≤ 200 ∧ Rf F k (b + 1) H') := by
  have hR0 := hR
  obtain ⟨⟨o', xs, p, h1, h2, h3⟩, _⟩ := hR
  simp only [okT, Bool.and_eq_true, beq_iff_eq, decide_eq_true_eq, List.all_eq_true] at ht
  obtain ⟨⟨⟨t1, t2⟩, t3⟩, t4⟩ := ht
  have e := of_c (o' := o) (l := unT l) h1 (by omega) (by omega) (by omega) h3
  rw [unT_eq t1] at e
  have hlt := pickN_lt xs p (unT l).length (by omega)
  have hm : (unT l).getD (pickN xs p (unT l).length) [] ∈ unT l := by
    rw [List.getD_eq_getElem?_getD, List.getElem?_eq_getElem hlt]; exact List.getElem_mem hlt
  exact ⟨_, _, e, _, rfl, hm, t2 _ hm, hR0.set ⟨o', xs, p + 1, by rw [List.getElem?_set, if_pos rfl, if_pos (List.getElem?_eq_some_iff.1 h1).1], by omega, h3⟩⟩
theorem num_f {F : VH} {k b : Nat} {o : Bool} {l : List (List V)} {H : VH} (hR : Rf F k b H) (hb : b ≤ 900000000) (ht : okI l = true) : Gets2 (cv id_spec_l13Rd_num [.ptr k 0, .sl o l] H) (fun v H' => ∃ s, v = .int .i64 s ∧ s ∈ unI l ∧ Rf F k (b + 1) H') := by
  have hR0 := hR
  obtain ⟨⟨o', xs, p, h1, h2, h3⟩, _⟩ := hR
  simp only [okI, Bool.and_eq_true, beq_iff_eq, decide_eq_true_eq] at ht
  obtain ⟨⟨t1, t3⟩, t4⟩ := ht
  have e := num_c (o' := o) (l := unI l) h1 (by omega) (by omega) (by omega) h3
  rw [unI_eq t1] at e
  have hlt := pickN_lt xs p (unI l).length (by omega)
  have hm : (unI l).getD (pickN xs p (unI l).length) 0 ∈ unI l := by
    rw [List.getD_eq_getElem?_getD, List.getElem?_eq_getElem hlt]; exact List.getElem_mem hlt
  exact ⟨_, _, e, _, rfl, hm, hR0.set ⟨o', xs, p + 1, by rw [List.getElem?_set, if_pos rfl, if_pos (List.getElem?_eq_some_iff.1 h1).1], by omega, h3⟩⟩
theorem DrawMail_f {F : VH} {k b : Nat} {H : VH} (hR : Rf F k b H) (hb : b ≤ 800000000) : Gets2 (cv id_spec_l10DrawMail [.ptr k 0] H) (fun v H' => ∃ m, v = .agg (cO m) ∧ TnM m ∧ m.lines.length ≤ 10 ∧ Rf F k (b + 20) H') := by
  refine Gets2.of ?_
  rw [spec_l10DrawMail_eq]
  simp only [evv, Nat.zero_add, if_true, if_false, decide_true, decide_false, Bool.false_eq_true, Bool.not_true, Bool.not_false]
  refine (of_f hR (by omega) (by decide)).bind ?_
  rintro _ H1 ⟨f, rfl, -, hf, R1⟩
  simp only [evv, Nat.zero_add, if_true, if_false, decide_true, decide_false, Bool.false_eq_true, Bool.not_true, Bool.not_false]
  refine (of_f R1 (by omega) (by decide)).bind ?_
  rintro _ H2 ⟨t, rfl, -, ht, R2⟩
  simp only [evv, Nat.zero_add, if_true, if_false, decide_true, decide_false, Bool.false_eq_true, Bool.not_true, Bool.not_false]
  refine (pick_f (n := 3) R2 (by omega) (by omega) (by omega)).bind ?_
  rintro _ H3 ⟨i, rfl, hi, R3⟩
  simp only [evv, Nat.zero_add, if_true, if_false, decide_true, decide_false, Bool.false_eq_true, Bool.not_true, Bool.not_false]
  refine Gets.loop2 (I := fun n s H => n ≤ 3 ∧ ∃ to, s = [.ptr k 0, .int .i64 (n : Nat), .str [], .sl true [], .sl true [], .str f, .sl true (vT to), .sl true []] ∧ TnT (10 - n) to ∧ Rf F k (b + 6 - n) H)
    (P := fun m vs H => ∃ to, m = 0 ∧ vs = [.ptr k 0, .str [], .sl true [], .sl true [], .str f, .sl true (vT to), .sl true []] ∧ TnT 10 to ∧ Rf F k (b + 6) H) (n := i) ?_ ⟨by omega, [t], rfl, TnT.one (by omega) ht, R3.le (by omega)⟩ ?_
  · rintro n s H ⟨hn, to, rfl, hto, R⟩
    rw [spec_l10DrawMail_l3_eq]
    by_cases h : n = 0
    · subst h
      simp only [evv, Nat.zero_add, if_true, if_false, decide_true, decide_false, Bool.false_eq_true, Bool.not_true, Bool.not_false]
      refine ⟨_, rfl, .inl ⟨_, rfl, to, rfl, rfl, hto, R⟩⟩
    · simp only [evv, Nat.zero_add, if_true, if_false, decide_true, decide_false, Bool.false_eq_true, Bool.not_true, Bool.not_false, show ((n : Nat) : Int) > 0 from by omega]
      refine (of_f R (by omega) (by decide)).bind ?_
      rintro _ H1 ⟨f, rfl, -, hf, R1⟩
      have a1 := app1 hto (by omega) f
      have a2 : vBinV (.int .i64) .sub (.int .i64 (n : Int)) (.int .i64 1) = some (.int .i64 ((n - 1 : Nat) : Int)) := n_subN _ n 1 (by omega) (by omega)
      simp only [evv, Nat.zero_add, if_true, if_false, decide_true, decide_false, Bool.false_eq_true, Bool.not_true, Bool.not_false, a1, a2]
      exact ⟨_, rfl, .inr ⟨rfl, n - 1, by omega, by omega, _, rfl, (hto.add hf).le (by omega), R1.le (by omega)⟩⟩
  rintro _ _ H4 ⟨to, rfl, rfl, hto, R4⟩
  simp only [evv, Nat.zero_add, if_true, if_false, decide_true, decide_false, Bool.false_eq_true, Bool.not_true, Bool.not_false]
  refine (num_f R4 (by omega) (by decide)).bind ?_
  rintro _ H5 ⟨j, rfl, hj, R5⟩
  obtain ⟨j, rfl, hj⟩ : ∃ n : Nat, j = n ∧ n ≤ 3 := by
    simp only [unI, List.mem_cons, List.not_mem_nil, or_false] at hj
    rcases hj with rfl | rfl | rfl | rfl
    · exact ⟨2, rfl, by omega⟩
    · exact ⟨3, rfl, by omega⟩
    · exact ⟨1, rfl, by omega⟩
    · exact ⟨0, rfl, by omega⟩
  simp only [evv, Nat.zero_add, if_true, if_false, decide_true, decide_false, Bool.false_eq_true, Bool.not_true, Bool.not_false]
  refine Gets.loop2 (I := fun n s H => n ≤ 3 ∧ ∃ ls, s = [.ptr k 0, .int .i64 (n : Nat), .str [], .sl true [], .sl true [], .str f, .sl true (vT to), .sl true (vT ls)] ∧ TnT (10 - n) ls ∧ Rf F k (b + 16 - n) H)
    (P := fun m vs H => ∃ ls, m = 0 ∧ vs = [.str [], .sl true [], .sl true [], .str f, .sl true (vT to), .sl true (vT ls)] ∧ TnT 10 ls ∧ Rf F k (b + 16) H) (n := j) ?_ ⟨by omega, [], rfl, TnT.none _, R5.le (by omega)⟩ ?_
  · rintro n s H ⟨hn, ls, rfl, hls, R⟩
    rw [spec_l10DrawMail_l7_eq]
    by_cases h : n = 0
    · subst h
      simp only [evv, Nat.zero_add, if_true, if_false, decide_true, decide_false, Bool.false_eq_true, Bool.not_true, Bool.not_false]
      refine ⟨_, rfl, .inl ⟨_, rfl, ls, rfl, rfl, hls, R⟩⟩
    · simp only [evv, Nat.zero_add, if_true, if_false, decide_true, decide_false, Bool.false_eq_true, Bool.not_true, Bool.not_false, show ((n : Nat) : Int) > 0 from by omega]
      refine (of_f R (by omega) (by decide)).bind ?_
      rintro _ H1 ⟨f, rfl, -, hf, R1⟩
      have a1 := app1 hls (by omega) f
      have a2 : vBinV (.int .i64) .sub (.int .i64 (n : Int)) (.int .i64 1) = some (.int .i64 ((n - 1 : Nat) : Int)) := n_subN _ n 1 (by omega) (by omega)
      simp only [evv, Nat.zero_add, if_true, if_false, decide_true, decide_false, Bool.false_eq_true, Bool.not_true, Bool.not_false, a1, a2]
      exact ⟨_, rfl, .inr ⟨rfl, n - 1, by omega, by omega, _, rfl, (hls.add hf).le (by omega), R1.le (by omega)⟩⟩
  rintro _ _ H6 ⟨ls, rfl, rfl, hls, R6⟩
  simp only [evv, Nat.zero_add, if_true, if_false, decide_true, decide_false, Bool.false_eq_true, Bool.not_true, Bool.not_false]
  exact Gets.here ⟨⟨f, to, ls⟩, rfl, ⟨hf, hto.le (by omega), hls.le (by omega)⟩, hls.1, R6.le (by omega)⟩
theorem WrongMail_f {F : VH} {k b : Nat} {H : VH} {m : Mail} (hR : Rf F k b H) (hb : b ≤ 800000000) (hm : TnM m) (hl : m.lines.length ≤ 99) : Gets2 (cv id_spec_l10WrongMail [.ptr k 0, .agg (cM m)] H) (fun v H' => ∃ m', v = .agg (cO m') ∧ TnM m' ∧ m'.lines.length ≤ m.lines.length + 1 ∧ Rf F k (b + 2) H') := by
  have e1 := l10Mail_c m hm
  simp only [cM_e, cO_e] at e1
  refine Gets2.of ?_
  rw [spec_l10WrongMail_eq]
  simp only [evv, Nat.zero_add, if_true, if_false, decide_true, decide_false, Bool.false_eq_true, Bool.not_true, Bool.not_false, e1]
  refine (pick_f (n := 20) hR (by omega) (by omega) (by omega)).bind ?_
  rintro _ H1 ⟨i, rfl, hi, R1⟩
  simp only [evv, Nat.zero_add, if_true, if_false, decide_true, decide_false, Bool.false_eq_true, Bool.not_true, Bool.not_false, decide_eq_true_eq]
  refine Gets.ite (fun h => ?_) (fun h => ?_)
  · refine (of_f R1 (by omega) (by decide)).bind ?_
    rintro _ H2 ⟨f, rfl, -, hf, R2⟩
    simp only [evv, Nat.zero_add, if_true, if_false, decide_true, decide_false, Bool.false_eq_true, Bool.not_true, Bool.not_false]
    exact Gets.here ⟨⟨f, m.to, m.lines⟩, rfl, ⟨hf, hm.2.1, hm.2.2⟩, by simp, R2.le (by omega)⟩
  · refine Gets.ite (fun h => ?_) (fun h => ?_)
    · exact Gets.here ⟨⟨m.from_, [], m.lines⟩, rfl, ⟨hm.1, TnT.none _, hm.2.2⟩, by simp, R1.le (by omega)⟩
    · refine Gets.ite (fun h => ?_) (fun h => ?_)
      · have a1 := app1 hm.2.2 (by omega) [10]
        simp only [evv, Nat.zero_add, if_true, if_false, decide_true, decide_false, Bool.false_eq_true, Bool.not_true, Bool.not_false, a1]
        exact Gets.here ⟨⟨m.from_, m.to, m.lines ++ [[10]]⟩, rfl, ⟨hm.1, hm.2.1, ⟨by simp; omega, fun s hs => by rcases List.mem_append.1 hs with h | h; exact hm.2.2.2 s h; simp at h; subst h; simp⟩⟩, by simp, R1.le (by omega)⟩
      · exact Gets.here ⟨m, rfl, hm, by simp, R1.le (by omega)⟩
end Go.Proofs.YtikpckcdpmjpgaaGreatDoor.Q
