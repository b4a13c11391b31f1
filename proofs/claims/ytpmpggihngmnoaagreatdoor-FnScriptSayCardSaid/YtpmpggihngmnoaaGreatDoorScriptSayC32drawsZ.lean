/- Contracts: draws of mails, of which only the sizes are told. -/
import Derived.Test.YtpmpggihngmnoaaGreatDoorScriptSayC30exactZ
import Derived.Test.YtpmpggihngmnoaaGreatDoorFnScriptSayK5
namespace Go.Proofs.YtpmpggihngmnoaaGreatDoor.Q
open Go Go.AM
set_option linter.unusedSimpArgs false
set_option linter.unusedVariables false
set_option linter.unusedSectionVars false
theorem pick_g {k b n : Nat} {H : VH} (hR : Rd k b H) (hb : b <= 900000000) (hn : 1 <= n) (hn2 : n <= 1000000) : Gets2 (cv id_spec_l13Rd_pick [.ptr k 0, .int .i64 (n : Int)] H) (fun v H' => ∃ i : Nat, v = .int .i64 (i : Nat) /\ i < n /\ Rd k (b + 1) H') := by
 obtain ⟨o, xs, p, h1, h2, h3⟩ := hR
 have e := pick_c h1 hn (by omega) (by omega) h3
 exact ⟨_, _, e, _, rfl, pickN_lt _ _ _ hn, o, xs, p + 1, by rw [List.getElem?_set, if_pos rfl, if_pos (List.getElem?_eq_some_iff.1 h1).1], by omega, h3⟩
theorem of_g {k b : Nat} {o : Bool} {l : List (List V)} {H : VH} (hR : Rd k b H) (hb : b <= 900000000) (ht : okT l = true) : Gets2 (cv id_spec_l13Rd_of [.ptr k 0, .sl o l] H) (fun v H' => ∃ s, v = .str s /\ s ∈ unT l /\ s.length <= 200 /\ Rd k (b + 1) H') := by
 obtain ⟨o', xs, p, h1, h2, h3⟩ := hR
 simp only [okT, Bool.and_eq_true, beq_iff_eq, decide_eq_true_eq, List.all_eq_true] at ht
 obtain ⟨⟨⟨t1, t2⟩, t3⟩, t4⟩ := ht
 have e := of_c (o' := o) (l := unT l) h1 (by omega) (by omega) (by omega) h3
 rw [unT_eq t1] at e
 have hlt := pickN_lt xs p (unT l).length (by omega)
 have hm : (unT l).getD (pickN xs p (unT l).length) [] ∈ unT l := by
  rw [List.getD_eq_getElem?_getD, List.getElem?_eq_getElem hlt]; exact List.getElem_mem hlt
 exact ⟨_, _, e, _, rfl, hm, t2 _ hm, o', xs, p + 1, by rw [List.getElem?_set, if_pos rfl, if_pos (List.getElem?_eq_some_iff.1 h1).1], by omega, h3⟩
theorem num_g {k b : Nat} {o : Bool} {l : List (List V)} {H : VH} (hR : Rd k b H) (hb : b <= 900000000) (ht : okI l = true) : Gets2 (cv id_spec_l13Rd_num [.ptr k 0, .sl o l] H) (fun v H' => ∃ s, v = .int .i64 s /\ s ∈ unI l /\ Rd k (b + 1) H') := by
 obtain ⟨o', xs, p, h1, h2, h3⟩ := hR
 simp only [okI, Bool.and_eq_true, beq_iff_eq, decide_eq_true_eq] at ht
 obtain ⟨⟨t1, t3⟩, t4⟩ := ht
 have e := num_c (o' := o) (l := unI l) h1 (by omega) (by omega) (by omega) h3
 rw [unI_eq t1] at e
 have hlt := pickN_lt xs p (unI l).length (by omega)
 have hm : (unI l).getD (pickN xs p (unI l).length) 0 ∈ unI l := by
  rw [List.getD_eq_getElem?_getD, List.getElem?_eq_getElem hlt]; exact List.getElem_mem hlt
 exact ⟨_, _, e, _, rfl, hm, o', xs, p + 1, by rw [List.getElem?_set, if_pos rfl, if_pos (List.getElem?_eq_some_iff.1 h1).1], by omega, h3⟩
theorem Open_g {xs : Bs} : Gets2 (cv id_spec_l13Open [.sl false (vB xs)] []) (fun v H' => v = .ptr 0 0 /\ Rd 0 0 H') :=
 ⟨_, _, l13Open_c xs [], rfl, false, xs.take 2000, 0, rfl, Nat.le_refl _, by simp; omega⟩
def TnT (n : Nat) (l : List Bs) : Prop := l.length <= n /\ ∀ s ∈ l, s.length <= 200
def TnM (m : Mail) : Prop := m.from_.length <= 200 /\ TnT 100 m.to /\ TnT 100 m.lines
def cO (m : Mail) : List V := [.str m.from_, .sl true (vT m.to), .sl true (vT m.lines)]
theorem cO_e (m : Mail) : cO m = [.str m.from_, .sl true (vT m.to), .sl true (vT m.lines)] := by exact id rfl
theorem TnT.add {n : Nat} {l : List Bs} {s : Bs} (h : TnT n l) (hs : s.length <= 200) : TnT (n + 1) (l ++ [s]) := by
 refine ⟨by simp; exact h.1, fun t ht => ?_⟩
 rcases List.mem_append.1 ht with h1 | h1
 ·exact h.2 t h1
 ·simp at h1; subst h1; exact hs
theorem TnT.le {n m : Nat} {l : List Bs} (h : TnT n l) (hn : n <= m) : TnT m l := ⟨by have := h.1; omega, h.2⟩
theorem TnT.none (n : Nat) : TnT n [] := ⟨by simp, by simp⟩
theorem TnT.one {n : Nat} {s : Bs} (hn : 1 <= n) (hs : s.length <= 200) : TnT n [s] := ⟨by simpa using hn, by simpa using hs⟩
theorem TnT.sm {n : Nat} {l : List Bs} (h : TnT n l) (hn : n <= 1000000) : SmT l := ⟨by have := h.1; omega, fun s hs => by have := h.2 s hs; omega⟩
theorem TnM.sm {m : Mail} (h : TnM m) : SmM m := ⟨by have := h.1; omega, h.2.1.sm (by omega), h.2.2.sm (by omega)⟩
theorem app1 {n : Nat} {l : List Bs} (h : TnT n l) (hn : n <= 1000000) (s : Bs) : appV false 1 16 (vT l) (.sl true [[.str s]]) = some (.sl true (vT (l ++ [s]))) := by
 have := v_app 1 16 (vT l) true (vT [s]) (vT_esz l) (vT_esz [s]) (by rw [vT_len, vT_len]; have := h.1; simp; omega)
 rw [vT_app] at this
 exact this
theorem appA {n m : Nat} {l k : List Bs} {o : Bool} (h : TnT n l) (hk : TnT m k) (hn : n + m <= 1000000) : appV false 1 16 (vT l) (.sl o (vT k)) = some (.sl true (vT (l ++ k))) := by
 have := v_app 1 16 (vT l) o (vT k) (vT_esz l) (vT_esz k) (by rw [vT_len, vT_len]; have := h.1; have := hk.1; omega)
 rw [vT_app] at this
 exact this
theorem DrawMail_g {k b : Nat} {H : VH} (hR : Rd k b H) (hb : b <= 800000000) : Gets2 (cv id_spec_l10DrawMail [.ptr k 0] H) (fun v H' => ∃ m, v = .agg (cO m) /\ TnM m /\ m.lines.length <= 10 /\ Rd k (b + 20) H') := by
 refine Gets2.of ?_
 rw [spec_l10DrawMail_eq]
 simp only [evv]
 refine (of_g hR (by omega) (by decide)).bind ?_
 rintro _ H1 ⟨f, rfl, -, hf, R1⟩
 simp only [evv]
 refine (of_g R1 (by omega) (by decide)).bind ?_
 rintro _ H2 ⟨t, rfl, -, ht, R2⟩
 simp only [evv]
 refine (pick_g (n := 3) R2 (by omega) (by omega) (by omega)).bind ?_
 rintro _ H3 ⟨i, rfl, hi, R3⟩
 simp only [evv]
 refine Gets.loop2 (I := fun n s H => n <= 3 /\ ∃ to, s = [.ptr k 0, .int .i64 (n : Nat), .str [], .sl true [], .sl true [], .str f, .sl true (vT to), .sl true []] /\ TnT (10 - n) to /\ Rd k (b + 6 - n) H)
  (P := fun m vs H => ∃ to, m = 0 /\ vs = [.ptr k 0, .str [], .sl true [], .sl true [], .str f, .sl true (vT to), .sl true []] /\ TnT 10 to /\ Rd k (b + 6) H) (n := i) ?_ ⟨by omega, [t], rfl, TnT.one (by omega) ht, R3.le (by omega)⟩ ?_
 ·rintro n s H ⟨hn, to, rfl, hto, R⟩
  rw [spec_l10DrawMail_l3_eq]
  by_cases h : n = 0
  ·subst h
   simp only [evv]
   refine ⟨_, rfl, .inl ⟨_, rfl, to, rfl, rfl, hto, R⟩⟩
  ·simp only [evv, show ((n : Nat) : Int) > 0 from by omega]
   refine (of_g R (by omega) (by decide)).bind ?_
   rintro _ H1 ⟨f, rfl, -, hf, R1⟩
   have a1 := app1 hto (by omega) f
   have a2 : vBinV (.int .i64) .sub (.int .i64 (n : Int)) (.int .i64 1) = some (.int .i64 ((n - 1 : Nat) : Int)) := n_subN _ n 1 (by omega) (by omega)
   simp only [evv, a1, a2]
   exact ⟨_, rfl, .inr ⟨rfl, n - 1, by omega, by omega, _, rfl, (hto.add hf).le (by omega), R1.le (by omega)⟩⟩
 rintro _ _ H4 ⟨to, rfl, rfl, hto, R4⟩
 simp only [evv]
 refine (num_g R4 (by omega) (by decide)).bind ?_
 rintro _ H5 ⟨j, rfl, hj, R5⟩
 obtain ⟨j, rfl, hj⟩ : ∃ n : Nat, j = n /\ n <= 3 := by
  simp only [unI, List.mem_cons, List.not_mem_nil, or_false] at hj
  rcases hj with rfl | rfl | rfl | rfl
  ·exact ⟨2, rfl, by omega⟩
  ·exact ⟨3, rfl, by omega⟩
  ·exact ⟨1, rfl, by omega⟩
  ·exact ⟨0, rfl, by omega⟩
 simp only [evv]
 refine Gets.loop2 (I := fun n s H => n <= 3 /\ ∃ ls, s = [.ptr k 0, .int .i64 (n : Nat), .str [], .sl true [], .sl true [], .str f, .sl true (vT to), .sl true (vT ls)] /\ TnT (10 - n) ls /\ Rd k (b + 16 - n) H)
  (P := fun m vs H => ∃ ls, m = 0 /\ vs = [.str [], .sl true [], .sl true [], .str f, .sl true (vT to), .sl true (vT ls)] /\ TnT 10 ls /\ Rd k (b + 16) H) (n := j) ?_ ⟨by omega, [], rfl, TnT.none _, R5.le (by omega)⟩ ?_
 ·rintro n s H ⟨hn, ls, rfl, hls, R⟩
  rw [spec_l10DrawMail_l7_eq]
  by_cases h : n = 0
  ·subst h
   simp only [evv]
   refine ⟨_, rfl, .inl ⟨_, rfl, ls, rfl, rfl, hls, R⟩⟩
  ·simp only [evv, show ((n : Nat) : Int) > 0 from by omega]
   refine (of_g R (by omega) (by decide)).bind ?_
   rintro _ H1 ⟨f, rfl, -, hf, R1⟩
   have a1 := app1 hls (by omega) f
   have a2 : vBinV (.int .i64) .sub (.int .i64 (n : Int)) (.int .i64 1) = some (.int .i64 ((n - 1 : Nat) : Int)) := n_subN _ n 1 (by omega) (by omega)
   simp only [evv, a1, a2]
   exact ⟨_, rfl, .inr ⟨rfl, n - 1, by omega, by omega, _, rfl, (hls.add hf).le (by omega), R1.le (by omega)⟩⟩
 rintro _ _ H6 ⟨ls, rfl, rfl, hls, R6⟩
 simp only [evv]
 exact Gets.here ⟨⟨f, to, ls⟩, rfl, ⟨hf, hto.le (by omega), hls.le (by omega)⟩, hls.1, R6.le (by omega)⟩
theorem l10Mail_c (m : Mail) (h : TnM m) : pc id_spec_l10Mail [.agg (cM m)] = some (.agg (cO m)) := by
 have a1 : appV false 1 16 [] (.sl false (vT m.to)) = some (.sl true (vT ([] ++ m.to))) := appA (o := false) (TnT.none 0) h.2.1 (by omega)
 have a2 : appV false 1 16 [] (.sl false (vT m.lines)) = some (.sl true (vT ([] ++ m.lines))) := appA (o := false) (TnT.none 0) h.2.2 (by omega)
 rw [List.nil_append] at a1 a2
 refine pc_of (H := []) ?_ (by simp only [evv]) (by simp only [evv, cO_e])
 show cv _ _ _ = _
 rw [spec_l10Mail_eq]
 simp only [evv, a1, a2, cO_e]
theorem WrongMail_g {k b : Nat} {H : VH} {m : Mail} (hR : Rd k b H) (hb : b <= 800000000) (hm : TnM m) (hl : m.lines.length <= 99) : Gets2 (cv id_spec_l10WrongMail [.ptr k 0, .agg (cM m)] H) (fun v H' => ∃ m', v = .agg (cO m') /\ TnM m' /\ m'.lines.length <= m.lines.length + 1 /\ Rd k (b + 2) H') := by
 have e1 := l10Mail_c m hm
 simp only [cM_e, cO_e] at e1
 refine Gets2.of ?_
 rw [spec_l10WrongMail_eq]
 simp only [evv, e1]
 refine (pick_g (n := 20) hR (by omega) (by omega) (by omega)).bind ?_
 rintro _ H1 ⟨i, rfl, hi, R1⟩
 simp only [evv, decide_eq_true_eq]
 refine Gets.ite (fun h => ?_) (fun h => ?_)
 ·refine (of_g R1 (by omega) (by decide)).bind ?_
  rintro _ H2 ⟨f, rfl, -, hf, R2⟩
  simp only [evv]
  exact Gets.here ⟨⟨f, m.to, m.lines⟩, rfl, ⟨hf, hm.2.1, hm.2.2⟩, by simp, R2.le (by omega)⟩
 ·refine Gets.ite (fun h => ?_) (fun h => ?_)
  ·exact Gets.here ⟨⟨m.from_, [], m.lines⟩, rfl, ⟨hm.1, TnT.none _, hm.2.2⟩, by simp, R1.le (by omega)⟩
  ·refine Gets.ite (fun h => ?_) (fun h => ?_)
   ·have a1 := app1 hm.2.2 (by omega) [10]
    simp only [evv, a1]
    exact Gets.here ⟨⟨m.from_, m.to, m.lines ++ [[10]]⟩, rfl, ⟨hm.1, hm.2.1, ⟨by simp; omega, fun s hs => by rcases List.mem_append.1 hs with h | h; exact hm.2.2.2 s h; simp at h; subst h; simp⟩⟩, by simp, R1.le (by omega)⟩
   ·exact Gets.here ⟨m, rfl, hm, by simp, R1.le (by omega)⟩
end Go.Proofs.YtpmpggihngmnoaaGreatDoor.Q
