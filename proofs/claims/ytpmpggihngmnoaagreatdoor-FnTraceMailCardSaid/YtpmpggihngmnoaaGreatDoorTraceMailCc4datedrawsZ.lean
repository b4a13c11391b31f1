/- Contracts: dates are drawn. -/
import Derived.Test.YtpmpggihngmnoaaGreatDoorTraceMailCc3formatZ
namespace Go.Proofs.YtpmpggihngmnoaaGreatDoor.Q
open Go Go.AM
set_option linter.unusedSimpArgs false
set_option linter.unusedVariables false
set_option linter.unusedSectionVars false
theorem cumY_130 : cumY 130 = 47482 := by decide +kernel
theorem cumY_step {k : Nat} (hk : k < 130) : cumY k + cumM (1970 + k) 11 + dimI (1970 + k) 12 = cumY (k + 1) := by
 have := cumM_12 (y := 1970 + k) (by omega)
 have e : cumM (1970 + (k : Int)) 12 = cumM (1970 + k) 11 + dimI (1970 + k) 12 := rfl
 rw [e] at this
 simp only [cumY]
 rw [<- this]; omega
theorem spec_DateOf_g (s z : Int) (hs : -10000000000 <= s /\ s <= 10000000000) (hz : -10000 <= z /\ z <= 10000) : ∃ d ok, pc id_spec_DateOf [.int .i64 s, .int .i64 z] = some (.tup [.agg (cD d), .bool ok]) := by
 suffices h : Gets (cv id_spec_DateOf [.int .i64 s, .int .i64 z] []) fun r => ∃ d ok, r.1 = .tup [.agg (cD d), .bool ok] by
  obtain ⟨⟨v, H⟩, e, d, ok, h⟩ := h
  have h : v = _ := h
  subst h
  exact ⟨d, ok, pc_of e (by simp only [evv]) (by simp only [cD_e, evv])⟩
 have zero : ∀ H : VH, Gets (some (V.tup [.agg [.int .i64 0, .int .i64 0, .int .i64 0, .int .i64 0, .int .i64 0, .int .i64 0, .int .i64 0], .bool false], H)) fun r => ∃ d ok, r.1 = .tup [.agg (cD d), .bool ok] := fun H => Gets.here ⟨⟨0, 0, 0, 0, 0, 0, 0⟩, false, rfl⟩
 have e0 := l4Zone_c z
 rw [spec_DateOf_eq]
 by_cases h1 : s < 0
 ·simp only [evv, h1]; exact zero _
 ·by_cases h2 : s ≥ 4102444800
  ·simp only [evv, h1, h2]; exact zero _
  ·by_cases h3 : -720 <= z /\ z <= 840
   ·have e1 := n_mul (.int .i64) z 60 (by omega) (by omega)
    have e2 := n_add (.int .i64) s (z * 60) (by omega) (by omega)
    rw [decide_eq_true h3] at e0
    by_cases h4 : s + z * 60 < 0
    ·simp only [evv, h1, h2, e0, e1, e2, h4]; exact zero _
    ·by_cases h5 : s + z * 60 ≥ 4102444800
     ·simp only [evv, h1, h2, e0, e1, e2, h4, h5]; exact zero _
     ·obtain ⟨l, hl⟩ : ∃ l : Nat, s + z * 60 = l := ⟨_, (Int.toNat_of_nonneg (by omega)).symm⟩
      rw [hl] at e2 h4 h5
      have q1 : vBinV (.int .i64) .quo (.int .i64 (l : Nat)) (.int .i64 86400) = some (.int .i64 ((l / 86400 : Nat) : Int)) := n_quoN _ l 86400 (by omega) (by omega)
      have q2 : vBinV (.int .i64) .rem (.int .i64 (l : Nat)) (.int .i64 86400) = some (.int .i64 ((l % 86400 : Nat) : Int)) := n_remN _ l 86400 (by omega)
      have q3 : vBinV (.int .i64) .quo (.int .i64 ((l % 86400 : Nat) : Int)) (.int .i64 3600) = some (.int .i64 ((l % 86400 / 3600 : Nat) : Int)) := n_quoN _ _ 3600 (by omega) (by omega)
      have q4 : vBinV (.int .i64) .quo (.int .i64 ((l % 86400 : Nat) : Int)) (.int .i64 60) = some (.int .i64 ((l % 86400 / 60 : Nat) : Int)) := n_quoN _ _ 60 (by omega) (by omega)
      have q5 : vBinV (.int .i64) .rem (.int .i64 ((l % 86400 / 60 : Nat) : Int)) (.int .i64 60) = some (.int .i64 ((l % 86400 / 60 % 60 : Nat) : Int)) := n_remN _ _ 60 (by omega)
      have q6 : vBinV (.int .i64) .rem (.int .i64 ((l % 86400 : Nat) : Int)) (.int .i64 60) = some (.int .i64 ((l % 86400 % 60 : Nat) : Int)) := n_remN _ _ 60 (by omega)
      simp only [evv, h1, h2, e0, e1, e2, h4, h5, q1, q2, q3, q4, q5, q6, vo_int]
      generalize ((l % 86400 / 3600 : Nat) : Int) = a1
      generalize ((l % 86400 / 60 % 60 : Nat) : Int) = a2
      generalize ((l % 86400 % 60 : Nat) : Int) = a3
      have hT : l / 86400 < 47482 := by omega
      generalize l / 86400 = T at hT
      clear q1 q2 q3 q4 q5 q6
      refine Gets.loop2 (I := fun n st H => ∃ k j : Nat, n = 1560 - (12 * k + j) /\ k < 130 /\ j < 12 /\ 0 <= T - cumY k - cumM (1970 + k) j ∧
       st = [.int .i64 (T - cumY k - cumM (1970 + k) j), .int .i64 0, .int .i64 0, .int .i64 0, .int .i64 0, .int .i64 0, .int .i64 0, .int .i64 0, .int .i64 (1970 + k), .int .i64 ((j + 1 : Nat) : Int), .int .i64 0, .int .i64 a1, .int .i64 a2, .int .i64 a3, .int .i64 z])
       (P := fun q vs H => q = 0 /\ ∃ (x : Int) (k j : Nat), 0 <= x /\ x <= 100000 /\ vs = [.int .i64 x, .int .i64 0, .int .i64 0, .int .i64 0, .int .i64 0, .int .i64 0, .int .i64 0, .int .i64 0, .int .i64 (1970 + k), .int .i64 ((j + 1 : Nat) : Int), .int .i64 0, .int .i64 a1, .int .i64 a2, .int .i64 a3, .int .i64 z]) (n := 1560) ?_ ⟨0, 0, by omega, by omega, by omega, by simp [cumY, cumM], by simp [cumY, cumM]⟩ ?_
      ·rintro n st H ⟨k, j, rfl, hk, hj, h0, rfl⟩
       have f0 := spec_DaysOf_c (1970 + k) ((j + 1 : Nat) : Int)
       have b0 := dimI_le (1970 + k) ((j + 1 : Nat) : Int)
       have b1 := cumY_le k
       have b2 := cumM_le (1970 + k) j
       rw [spec_DateOf_l9_eq]
       by_cases hge : T - cumY k - cumM (1970 + k) j ≥ dimI (1970 + k) ((j + 1 : Nat) : Int)
       ·have f1 := n_sub (.int .i64) (T - cumY k - cumM (1970 + k) j) (dimI (1970 + k) ((j + 1 : Nat) : Int)) (by omega) (by omega)
        have f2 : vBinV (.int .i64) .add (.int .i64 ((j + 1 : Nat) : Int)) (.int .i64 1) = some (.int .i64 ((j + 1 + 1 : Nat) : Int)) := n_addN _ (j + 1) 1 (by omega)
        have f3 := n_add (.int .i64) (1970 + (k : Int)) 1 (by omega) (by omega)
        by_cases h12 : j = 11
        ·subst h12
         have hst := cumY_step hk
         have hk2 : k + 1 < 130 := by
          rcases Nat.lt_or_ge (k + 1) 130 with h | h
          ·exact h
          ·have : k + 1 = 130 := by omega
           rw [this, cumY_130] at hst
           have : ((11 + 1 : Nat) : Int) = 12 := rfl
           rw [this] at hge
           omega
         have hd : ((11 + 1 : Nat) : Int) = 12 := rfl
         rw [hd] at f1 hge
         have hx : T - cumY k - cumM (1970 + (k : Int)) 11 - dimI (1970 + k) 12 = T - cumY (k + 1) - cumM (1970 + ((k + 1 : Nat) : Int)) 0 := by
          rw [<- hst]; simp only [cumM]; omega
         rw [hx] at f1
         rw [show (1970 + (k : Int)) + 1 = 1970 + ((k + 1 : Nat) : Int) by omega] at f3
         simp only [hd] at f0 f2
         simp only [evv, hd, f0, f1, f2, f3, hge, vo_int, show (((11 + 1 + 1 : Nat) : Int) = 13) from rfl]
         refine Gets.here (.inr ⟨rfl, 1560 - (12 * (k + 1) + 0), by omega, k + 1, 0, rfl, hk2, by omega, by rw [<- hx]; omega, rfl⟩)
        ·have hx : T - cumY k - cumM (1970 + (k : Int)) j - dimI (1970 + k) ((j + 1 : Nat) : Int) = T - cumY k - cumM (1970 + (k : Int)) (j + 1) := by
          simp only [cumM]
          rw [show ((j : Int) + 1) = ((j + 1 : Nat) : Int) by omega]; omega
         rw [hx] at f1
         simp only [evv, f0, f1, f2, hge, vo_int, show ¬ (((j + 1 + 1 : Nat) : Int) = 13) from by omega]
         exact Gets.here (.inr ⟨rfl, 1560 - (12 * k + (j + 1)), by omega, k, j + 1, rfl, hk, by omega, by rw [<- hx]; omega, rfl⟩)
       ·simp only [evv, f0, hge]
        exact Gets.here (.inl ⟨0, rfl, rfl, _, k, j, h0, by omega, rfl⟩)
      ·rintro _ _ H ⟨rfl, x, k, j, hx0, hx1, rfl⟩
       have f1 := n_add (.int .i64) x 1 (by omega) (by omega)
       simp only [evv, f1, vo_int]
       exact Gets.here ⟨⟨1970 + k, ((j + 1 : Nat) : Int), x + 1, a1, a2, a3, z⟩, true, rfl⟩
   ·rw [decide_eq_false h3] at e0
    simp only [evv, h1, h2, e0]; exact zero _
theorem l4Draw_g {k b : Nat} {H : VH} (hR : Rd k b H) (hb : b <= 800000000) : Gets2 (cv id_spec_l4Draw [.ptr k 0] H) (fun v H' => ∃ d, v = .agg (cD d) /\ Rd k (b + 3) H') := by
 refine Gets2.of ?_
 rw [spec_l4Draw_eq]
 simp only [evv]
 refine (num_g hR (by omega) (by decide)).bind ?_
 rintro _ H1 ⟨s, rfl, hs, R1⟩
 have bs : 0 <= s /\ s <= 5000000000 := by
  simp only [unI, List.mem_cons, List.not_mem_nil, or_false] at hs
  omega
 simp only [evv]
 refine (pick_g (n := 100000) R1 (by omega) (by omega) (by omega)).bind ?_
 rintro _ H2 ⟨i, rfl, hi, R2⟩
 have e1 := n_add (.int .i64) s (i : Nat) (by omega) (by omega)
 simp only [evv, e1]
 refine (num_g R2 (by omega) (by decide)).bind ?_
 rintro _ H3 ⟨z, rfl, hz, R3⟩
 have bz : -1000 <= z /\ z <= 1000 := by
  simp only [unI, List.mem_cons, List.not_mem_nil, or_false] at hz
  omega
 obtain ⟨d, ok, e2⟩ := spec_DateOf_g (s + i) z (by omega) (by omega)
 simp only [evv, e2, cD_e]
 exact Gets.here ⟨d, rfl, R3⟩
theorem l4Wrong_g {k b : Nat} {H : VH} (d : Dt) (hR : Rd k b H) (hb : b <= 800000000) : Gets2 (cv id_spec_l4Wrong [.ptr k 0, .agg (cD d)] H) (fun v H' => ∃ d', v = .agg (cD d') /\ Rd k (b + 2) H') := by
 refine Gets2.of ?_
 rw [spec_l4Wrong_eq]
 simp only [cD_e, evv]
 refine (pick_g (n := 24) hR (by omega) (by omega) (by omega)).bind ?_
 rintro _ H1 ⟨i, rfl, hi, R1⟩
 simp only [evv, decide_eq_true_eq]
 refine Gets.ite (fun h => ?_) (fun h => ?_)
 ·refine (num_g R1 (by omega) (by decide)).bind ?_
  rintro _ H2 ⟨s, rfl, -, R2⟩
  simp only [evv, vo_int]
  exact Gets.here ⟨⟨d.y, d.mo, s, d.h, d.mi, d.s, d.z⟩, rfl, R2⟩
 refine Gets.ite (fun h => ?_) (fun h => ?_)
 ·refine (num_g R1 (by omega) (by decide)).bind ?_
  rintro _ H2 ⟨s, rfl, -, R2⟩
  simp only [evv, vo_int]
  exact Gets.here ⟨⟨d.y, s, d.d, d.h, d.mi, d.s, d.z⟩, rfl, R2⟩
 refine Gets.ite (fun h => ?_) (fun h => ?_)
 ·refine (num_g R1 (by omega) (by decide)).bind ?_
  rintro _ H2 ⟨s, rfl, -, R2⟩
  simp only [evv, vo_int]
  exact Gets.here ⟨⟨s, d.mo, d.d, d.h, d.mi, d.s, d.z⟩, rfl, R2⟩
 refine Gets.ite (fun h => ?_) (fun h => ?_)
 ·refine (num_g R1 (by omega) (by decide)).bind ?_
  rintro _ H2 ⟨s, rfl, -, R2⟩
  simp only [evv, vo_int]
  exact Gets.here ⟨⟨d.y, d.mo, d.d, s, d.mi, d.s, d.z⟩, rfl, R2⟩
 refine Gets.ite (fun h => ?_) (fun h => ?_)
 ·refine (num_g R1 (by omega) (by decide)).bind ?_
  rintro _ H2 ⟨s, rfl, -, R2⟩
  simp only [evv, vo_int]
  exact Gets.here ⟨⟨d.y, d.mo, d.d, d.h, d.mi, d.s, s⟩, rfl, R2⟩
 refine Gets.ite (fun h => ?_) (fun h => ?_)
 ·refine (num_g R1 (by omega) (by decide)).bind ?_
  rintro _ H2 ⟨s, rfl, -, R2⟩
  simp only [evv, vo_int]
  exact Gets.here ⟨⟨d.y, d.mo, d.d, d.h, d.mi, s, d.z⟩, rfl, R2⟩
 ·exact Gets.here ⟨d, rfl, R1.le (by omega)⟩
theorem gt_21 {R : Type} (a b c d e f g h j k m n o p q r s t u v w : V) (K : (Nat -> V) -> Option R) : gotV 21 [a, b, c, d, e, f, g, h, j, k, m, n, o, p, q, r, s, t, u, v, w] K = K fun i => [a, b, c, d, e, f, g, h, j, k, m, n, o, p, q, r, s, t, u, v, w].getD i .nilp := by exact id rfl
theorem DrawTraceMail_g (xs : Bs) : Gets2 (cv id_spec_DrawTraceMail [.sl false (vB xs)] []) (fun v H' => ∃ m h d, v = .tup [.agg (cO m), .str h, .agg (cD d)] /\ TnM m /\ h ∈ ([[120, 46, 111, 114, 103], [114, 101, 108, 97, 121, 46, 101, 120, 97, 109, 112, 108, 101], [88], []] : List Bs)) := by
 refine Gets2.of ?_
 rw [spec_DrawTraceMail_eq]
 refine Open_g.bind ?_
 rintro _ H0 ⟨rfl, R0⟩
 simp only [evv]
 refine (DrawMail_g R0 (by omega)).bind ?_
 rintro _ H1 ⟨a, rfl, ha, hal, R1⟩
 have w1 := WrongMail_g (m := a) R1 (by omega) ha (by omega)
 simp only [cM_e] at w1
 simp only [evv, cO_e]
 refine w1.bind ?_
 rintro _ H2 ⟨m, rfl, hm, hml, R2⟩
 simp only [evv, cO_e]
 refine (l4Draw_g R2 (by omega)).bind ?_
 rintro _ H3 ⟨d, rfl, R3⟩
 have w2 := l4Wrong_g d R3 (by omega)
 simp only [cD_e] at w2
 simp only [evv, cD_e]
 refine w2.bind ?_
 rintro _ H4 ⟨d, rfl, R4⟩
 simp only [evv, cD_e]
 refine (num_g R4 (by omega) (by decide)).bind ?_
 rintro _ H5 ⟨i, rfl, hi, R5⟩
 obtain ⟨i, rfl, hi5⟩ : ∃ n : Nat, i = n /\ n <= 5 := by
  simp only [unI, List.mem_cons, List.not_mem_nil, or_false] at hi
  rcases hi with rfl | rfl | rfl | rfl
  ·exact ⟨0, rfl, by omega⟩
  ·exact ⟨1, rfl, by omega⟩
  ·exact ⟨4, rfl, by omega⟩
  ·exact ⟨5, rfl, by omega⟩
 simp only [evv]
 refine Gets.loop2 (I := fun n st H => n <= 5 /\ ∃ ls, TnT (30 - n) ls /\ Rd 0 30 H /\ st = .ptr 0 0 :: .int .i64 (n : Nat) :: .str [] :: .sl true [] :: .sl true [] :: .int .i64 0 :: .int .i64 0 :: .int .i64 0 :: .int .i64 0 :: .int .i64 0 :: .int .i64 0 :: .int .i64 0 :: .str m.from_ :: .sl true (vT m.to) :: .sl true (vT ls) :: cD d)
  (P := fun q vs H => q = 0 /\ ∃ ls, TnT 100 ls /\ Rd 0 30 H /\ vs = .ptr 0 0 :: .str [] :: .sl true [] :: .sl true [] :: .int .i64 0 :: .int .i64 0 :: .int .i64 0 :: .int .i64 0 :: .int .i64 0 :: .int .i64 0 :: .int .i64 0 :: .str m.from_ :: .sl true (vT m.to) :: .sl true (vT ls) :: cD d) (n := i) ?_ ⟨hi5, m.lines, ⟨by omega, hm.2.2.2⟩, R5.le (by omega), by rw [cD_e]⟩ ?_
 ·rintro n st H ⟨hn, ls, hls, R, rfl⟩
  simp only [cD_e]
  rw [spec_DrawTraceMail_l5_eq]
  by_cases h : n = 0
  ·subst h
   simp only [evv]
   exact ⟨_, rfl, .inl ⟨_, rfl, rfl, ls, hls.le (by omega), R, rfl⟩⟩
  ·have a1 : appV false 1 16 (vT [[114, 101, 99, 101, 105, 118, 101, 100, 58, 32, 98, 121, 32, 120]]) (.sl true (vT ls)) = _ := appA (n := 1) (m := 30 - n) (TnT.one (by omega) (by simp)) hls (by omega)
   have a1' : appV false 1 16 [[.str [114, 101, 99, 101, 105, 118, 101, 100, 58, 32, 98, 121, 32, 120]]] (.sl true (vT ls)) = some (.sl true (vT ([[114, 101, 99, 101, 105, 118, 101, 100, 58, 32, 98, 121, 32, 120]] ++ ls))) := a1
   have a2 : vBinV (.int .i64) .sub (.int .i64 (n : Int)) (.int .i64 1) = some (.int .i64 ((n - 1 : Nat) : Int)) := n_subN _ n 1 (by omega) (by omega)
   simp only [evv, show ((n : Nat) : Int) > 0 from by omega, a1', a2]
   refine ⟨_, rfl, .inr ⟨rfl, n - 1, by omega, by omega, _, ⟨?_, ?_⟩, R, rfl⟩⟩
   ·have := hls.1; simp; omega
   ·intro s hs
    rcases List.mem_cons.1 hs with hs | hs
    ·subst hs; simp
    ·exact hls.2 s hs
 rintro _ _ H6 ⟨rfl, ls, hls, R6, rfl⟩
 simp only [cD_e, evv, gt_21]
 have g16 : ∀ (x0 x1 x2 x3 x4 x5 x6 x7 x8 x9 x10 x11 x12 x13 x14 x15 x16 d : V) (l : List V), (x0 :: x1 :: x2 :: x3 :: x4 :: x5 :: x6 :: x7 :: x8 :: x9 :: x10 :: x11 :: x12 :: x13 :: x14 :: x15 :: x16 :: l).getD 16 d = x16 := fun _ _ _ _ _ _ _ _ _ _ _ _ _ _ _ _ _ _ _ => rfl
 refine (of_g R6 (by omega) (by decide)).bind ?_
 rintro _ H7 ⟨h, rfl, hh, -, R7⟩
 simp only [evv]
 exact Gets.here ⟨⟨m.from_, m.to, ls⟩, h, d, by simp only [cO_e, cD_e]; rfl, ⟨hm.1, hm.2.1, hls⟩, by simpa [unT] using hh⟩
end Go.Proofs.YtpmpggihngmnoaaGreatDoor.Q
