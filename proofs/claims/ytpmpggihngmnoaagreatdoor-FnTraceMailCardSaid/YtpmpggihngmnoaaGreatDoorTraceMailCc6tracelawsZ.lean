/- The laws of traces. -/
import Derived.Test.YtpmpggihngmnoaaGreatDoorTraceMailCc5traceZ
namespace Go.Proofs.YtpmpggihngmnoaaGreatDoor.Q
open Go Go.AM
set_option linter.unusedSimpArgs false
set_option linter.unusedVariables false
set_option linter.unusedSectionVars false
def okB (s : Bs) : Bool := s.all fun b => !wrB b.toNat
theorem okB_app (s t : Bs) : okB (s ++ t) = (okB s && okB t) := by simp [okB, List.all_append]
theorem dgB_ok : ∀ n : Nat, n < 10 -> okB [dgB n] = true := by decide
theorem decF_ok : ∀ (f n k : Nat) (out : Bs), okB out = true -> okB (decF f n k out) = true
 | 0, n, k, out, h => h
 | f + 1, n, k, out, h => by
   simp only [decF]
   split
   ·refine decF_ok f _ _ _ ?_
    have := dgB_ok (n % 10) (by omega)
    have e : dgB (n % 10) :: out = [dgB (n % 10)] ++ out := rfl
    rw [e, okB_app, this, h]; rfl
   ·exact h
theorem decT_ok (n k : Nat) : okB (decT n k) = true := decF_ok _ _ _ _ rfl
theorem dec2_len : ∀ n : Nat, n < 100 -> (decT n 2).length <= 2 := by decide +kernel
theorem dec1_len : ∀ n : Nat, n < 100 -> (decT n 1).length <= 2 := by decide +kernel
theorem dec4_len : ∀ k : Nat, k < 130 -> (decT (1970 + k) 4).length <= 4 := by decide +kernel
theorem wdays_ok : ∀ r : Nat, r < 7 -> okB (wdays.getD r []) = true := by decide
theorem monT_ok : ∀ r : Nat, r < 12 -> okB (monT.getD r []) = true := by decide
theorem fmtD_ok {d : Dt} (h : validT d = true) : okB (fmtD d) = true /\ (fmtD d).length <= 40 := by
 obtain ⟨k, j, dd, hh, mm, ss, q1, q2, q3, q4, q5, q6, q7, q8, q9, q10, q11, q12, q13, q14⟩ := valid_of h
 have bd := dimI_le d.y d.mo
 have w0 : (wdT d).length <= 3 := wdays_len _
 have w1 := monT_len j
 have w2 := dec1_len dd (by omega)
 have w3 := dec4_len k q7
 have w4 := dec2_len hh (by omega)
 have w5 := dec2_len mm (by omega)
 have w6 := dec2_len ss (by omega)
 have w7 := dec2_len (d.z.natAbs / 60) (by omega)
 have w8 := dec2_len (d.z.natAbs % 60) (by omega)
 have w9 : (sgnT d.z).length = 2 := by unfold sgnT; split <;> rfl
 have hres : fmtD d = wdT d ++ [44, 32] ++ decT dd 1 ++ [32] ++ monT.getD j [] ++ [32] ++ decT (1970 + k) 4 ++ [32] ++ decT hh 2 ++ [58] ++ decT mm 2 ++ [58] ++ decT ss 2 ++ sgnT d.z ++ decT (d.z.natAbs / 60) 2 ++ decT (d.z.natAbs % 60) 2 := by
  unfold fmtD
  rw [q1, q2, q3, q4, q5, q6]
  rw [show (((j + 1 : Nat) : Int) - 1).toNat = j by omega]
  simp only [Int.toNat_natCast]
 rw [hres]
 have o0 : okB (wdT d) = true := wdays_ok _ (Nat.mod_lt _ (by omega))
 have o1 : okB (sgnT d.z) = true := by unfold sgnT; split <;> rfl
 refine ⟨?_, ?_⟩
 ·simp only [okB_app, o0, o1, monT_ok j q8, decT_ok, Bool.true_and]; rfl
 ·simp only [List.length_append, List.length_cons, List.length_nil]; omega
theorem lineT_text {h : Bs} {d : Dt} (hv : validT d = true) (ho : okB h = true) (hl : h.length <= 60) : textT (lineT h d) = true := by
 obtain ⟨f1, f2⟩ := fmtD_ok hv
 have e : okB (lineT h d) = true := by
  unfold lineT
  simp only [okB_app, ho, f1, Bool.and_true]; rfl
 unfold textT
 have hlen : (lineT h d).length <= 200 := by
  unfold lineT recBy
  simp only [List.length_append, List.length_cons, List.length_nil]; omega
 rw [decide_eq_true hlen, Bool.and_true]
 unfold okB at e
 rw [Bool.not_eq_true', List.any_eq_false]
 rw [List.all_eq_true] at e
 intro b hb
 have := e b hb
 simpa using this
theorem lineT_hop (h : Bs) (d : Dt) : hopB (lineT h d) = true /\ lineT h d ≠ [] := by
 unfold lineT
 rw [List.append_assoc, List.append_assoc]
 generalize h ++ ([59, 32] ++ fmtD d) = x
 exact ⟨by unfold hopB preT; exact decide_eq_true (by rfl), by simp [recBy]⟩
def trI (m : Mail) (l : Bs) (i : Nat) : Mail := ⟨m.from_, m.to, List.replicate i l ++ m.lines⟩
theorem trI_hops {l : Bs} (h1 : hopB l = true) (h2 : l ≠ []) (ls : List Bs) : ∀ i, hopsN (List.replicate i l ++ ls) = i + hopsN ls
 | 0 => by simp
 | i + 1 => by
   rw [List.replicate_succ, List.cons_append, hopsN, if_neg h2, if_pos h1, trI_hops h1 h2 ls i]; omega
theorem trI_valid {m : Mail} {l : Bs} {i : Nat} (hm : mailT m 1 30 = true) (hl : textT l = true) (hi : i + m.lines.length <= 30) : mailT (trI m l i) 1 30 = true := by
 unfold mailT at hm ⊢
 simp only [Bool.and_eq_true, decide_eq_true_eq, Bool.not_eq_true', List.any_eq_false] at hm ⊢
 obtain ⟨h1, h2, h3, h4, h5, h6⟩ := hm
 refine ⟨h1, h2, h3, h4, ?_, fun x hx => ?_⟩
 ·simp only [trI, List.length_append, List.length_replicate]; omega
 ·rcases List.mem_append.1 hx with hx | hx
  ·obtain ⟨_, rfl⟩ := List.mem_replicate.1 hx
   simp [hl]
  ·exact h6 x hx
theorem trI_sm {m : Mail} {l : Bs} {i : Nat} (hm : SmM m) (hml : m.lines.length <= 100000) (hl : l.length <= 1000000) (hi : i <= 1000) : SmM (trI m l i) := by
 refine ⟨hm.1, hm.2.1, ⟨by simp only [trI, List.length_append, List.length_replicate]; omega, fun s hs => ?_⟩⟩
 rcases List.mem_append.1 hs with hs | hs
 ·obtain ⟨_, rfl⟩ := List.mem_replicate.1 hs; omega
 ·exact hm.2.2.2 s hs
theorem traceM_trI {m : Mail} {h : Bs} {d : Dt} {i : Nat} (hb : traceB (trI m (lineT h d) i) h d = true) : traceM (trI m (lineT h d) i) h d = trI m (lineT h d) (i + 1) := by
 unfold traceM
 rw [if_pos hb]
 rfl
theorem hosts_ok {h : Bs} (hh : h ∈ ([[120, 46, 111, 114, 103], [114, 101, 108, 97, 121, 46, 101, 120, 97, 109, 112, 108, 101], [88], []] : List Bs)) : okB h = true /\ h.length <= 60 := by
 simp only [List.mem_cons, List.not_mem_nil, or_false] at hh
 rcases hh with rfl | rfl | rfl | rfl <;> exact ⟨by decide, by decide⟩
theorem cM_inj_e (m : Mail) (o : List V) (h : stripL o = cM m) : stripL o = [.str m.from_, .sl false (vT m.to), .sl false (vT m.lines)] := by rw [h, cM_e]
theorem traceB_of {m : Mail} {h : Bs} {d : Dt} (hb : traceB m h d = true) : mailT m 1 30 = true /\ validT d = true /\ domT h = true /\ m.lines.length ≠ 30 /\ hopsN m.lines < 5 := by
 unfold traceB at hb
 simp only [Bool.and_eq_true, Bool.not_eq_true', decide_eq_false_iff_not] at hb
 exact ⟨hb.1, hb.2.1, hb.2.2.1, hb.2.2.2.1, by omega⟩
theorem mailT_lines {m : Mail} (h : mailT m 1 30 = true) : m.lines.length <= 30 := by
 unfold mailT at h
 simp only [Bool.and_eq_true, decide_eq_true_eq] at h
 have := h.2.2.2.2.1
 omega
theorem FnTraceMail_v (u : V) (h : HasArg (.sl (.int .u8)) u) : ∃ H, cv id_laws_FnTraceMail [u] [] = some (.bool true, H) := by
 obtain ⟨xs, rfl⟩ := argB h
 suffices hg : Gets (cv id_laws_FnTraceMail [.sl false (vB xs)] []) fun r => r.1 = .bool true by
  obtain ⟨⟨v, H⟩, e, h⟩ := hg
  cases h
  exact ⟨H, e⟩
 have gt_18 : ∀ {R : Type} (a b c d e f g h j k m n o p q r s t : V) (K : (Nat -> V) -> Option R), gotV 18 [a, b, c, d, e, f, g, h, j, k, m, n, o, p, q, r, s, t] K = K fun i => [a, b, c, d, e, f, g, h, j, k, m, n, o, p, q, r, s, t].getD i .nilp := fun _ _ _ _ _ _ _ _ _ _ _ _ _ _ _ _ _ _ _ => rfl
 rw [laws_FnTraceMail_eq]
 simp only [evv, decide_eq_true_eq]
 refine Gets.ite (fun h => ?_) (fun h => ?_)
 ·exact Gets.here rfl
 ·refine (DrawTraceMail_g xs).bind ?_
  rintro _ H1 ⟨m, h, d, rfl, hm, hh⟩
  have hml := hm.2.2.1
  obtain ⟨hok, hhl⟩ := hosts_ok hh
  obtain ⟨o, e1, ho, hod, ho3⟩ := impl_TraceMail_c m h d hm.sm (by omega) (by omega)
  have e2 := spec_TraceMail_c m h d hm.sm (by omega) (by omega) (fun _ => l10Mail_c m hm)
  obtain ⟨hX, hXl⟩ := traceM_sm (m := m) (h := h) (d := d) hm.sm (by omega) (by omega)
  have e3 := impl_MailSame_c (traceM m h d) (traceM m h d) hX
  rw [decide_eq_true rfl] at e3
  have e4 := impl_CountHops_c m hm.sm
  have e5 := impl_CountHops_c (traceM m h d) hX
  simp only [cM_e, cD_e] at e1 e2 e3 e4 e5
  rw [cO_e] at e2
  have ho' := cM_inj_e _ _ ho
  by_cases hb : traceB m h d = true
  ·obtain ⟨b1, b2, b3, b4, b5⟩ := traceB_of hb
   have hM : traceM m h d = trI m (lineT h d) 1 := by unfold traceM; rw [if_pos hb]; rfl
   have ml := mailT_lines b1
   rw [hb] at e1 e2
   have hlt := lineT_text b2 hok hhl
   obtain ⟨p1, p2⟩ := lineT_hop h d
   have fl := (fmtD_ok b2).2
   have ll : (lineT h d).length = 13 + h.length + 2 + (fmtD d).length := by
    unfold lineT recBy
    simp only [List.length_append, List.length_cons, List.length_nil]
   have v1 := trI_valid (i := 1) b1 hlt (by omega)
   have n1 : chN m = (hopsN m.lines : Nat) := by unfold chN; rw [if_pos b1]
   have n2 : chN (trI m (lineT h d) 1) = ((hopsN m.lines + 1 : Nat) : Int) := by
    unfold chN
    rw [if_pos v1]
    show ((hopsN (List.replicate 1 (lineT h d) ++ m.lines) : Nat) : Int) = _
    rw [trI_hops p1 p2]; omega
   rw [n1, b1] at e4
   rw [hM] at e2 e3 e5 ho'
   rw [n2, v1] at e5
   have rest : ∀ H, Gets ((lpW' laws_FnTraceMail_l11 (.str h :: .int .i64 (hopsN m.lines : Nat) :: .int .i64 ((hopsN m.lines + 1 : Nat) : Int) :: .bool true :: .int .i64 0 :: [.str m.from_, .sl false (vT m.to), .sl false (vT m.lines)] ++ cD d ++ cM (trI m (lineT h d) 1)) H).bind fun r163 => inN r163.1 [gotV 0 r163.2.1 fun v164 => some ((.bool false), r163.2.2), gotV 1 r163.2.1 fun v166 => some ((v166 0), r163.2.2)]) fun r => r.1 = .bool true := by
    intro H
    refine Gets.loop2 (I := fun n st H => ∃ i : Nat, n = 5 - i /\ i + 1 + hopsN m.lines <= 5 /\ i + 1 + m.lines.length <= 30 /\ st = .str h :: .int .i64 (hopsN m.lines : Nat) :: .int .i64 ((hopsN m.lines + 1 : Nat) : Int) :: .bool true :: .int .i64 (i : Nat) :: [.str m.from_, .sl false (vT m.to), .sl false (vT m.lines)] ++ cD d ++ cM (trI m (lineT h d) (i + 1)))
     (P := fun q vs H => q = 1 /\ vs = [.bool true]) (n := 5) ?_ ⟨0, by omega, by omega, by omega, rfl⟩ ?_
    ·rintro n st H ⟨i, rfl, hi1, hi2, rfl⟩
     have sI : SmM (trI m (lineT h d) (i + 1)) := trI_sm hm.sm (by omega) (by omega) (by omega)
     obtain ⟨o2, f1, f2, f3, f4⟩ := impl_TraceMail_c _ h d sI (by simp [trI]; omega) (by omega)
     have vI := trI_valid (i := i + 1) b1 hlt (by omega)
     have f5 := impl_MailValid_c _ sI
     rw [vI] at f5
     have f2' := cM_inj_e _ _ f2
     have a1 : vBinV (.int .i64) .add (.int .i64 (i : Nat)) (.int .i64 1) = some (.int .i64 ((i + 1 : Nat) : Int)) := n_addN _ i 1 (by omega)
     have a2 : vBinV (.int .i64) .add (.int .i64 (hopsN m.lines : Nat)) (.int .i64 1) = some (.int .i64 ((hopsN m.lines + 1 : Nat) : Int)) := n_addN _ (hopsN m.lines) 1 (by omega)
     simp only [cM_e, cD_e] at f1 f5
     simp only [cM_e, cD_e, app_cons', app_nil']
     rw [laws_FnTraceMail_l11_eq]
     by_cases hbi : traceB (trI m (lineT h d) (i + 1)) h d = true
     ·obtain ⟨_, _, _, c4, c5⟩ := traceB_of hbi
      have hops : hopsN (trI m (lineT h d) (i + 1)).lines = i + 1 + hopsN m.lines := trI_hops p1 p2 _ _
      have hlen : (trI m (lineT h d) (i + 1)).lines.length = i + 1 + m.lines.length := by simp [trI]
      rw [hbi] at f1
      rw [traceM_trI hbi] at f2'
      simp only [evv, show ((i : Nat) : Int) < 5 from by omega, f1, f2', a1]
      exact Gets.here (.inr ⟨rfl, 5 - (i + 1), by omega, i + 1, rfl, by omega, by omega, rfl⟩)
     ·have hbi' : traceB (trI m (lineT h d) (i + 1)) h d = false := by simpa using hbi
      rw [hbi'] at f1
      have s1 := v_suf 1 false (vT (trI m (lineT h d) (i + 1)).lines) .i64 (i + 1) (vT_esz _) (by rw [vT_len]; simp [trI])
      have s2 : (trI m (lineT h d) (i + 1)).lines.drop (i + 1) = m.lines := by
       show (List.replicate (i + 1) (lineT h d) ++ m.lines).drop (i + 1) = m.lines
       have := List.drop_left (l₁ := List.replicate (i + 1) (lineT h d)) (l₂ := m.lines)
       rw [List.length_replicate] at this
       exact this
      rw [vT_drop, s2, vT_strip] at s1
      have f6 := mwTexts_c m.lines m.lines (by omega)
      rw [decide_eq_true rfl] at f6
      generalize traceM (trI m (lineT h d) (i + 1)) h d = Y at *
      simp only [evv, show ((i : Nat) : Int) < 5 from by omega, f1, f2', f5, a1, a2, s1, f6]
      exact Gets.here (.inl ⟨1, rfl, rfl, rfl⟩)
    ·rintro _ _ H ⟨rfl, rfl⟩
     simp only [evv]
     exact Gets.here rfl
   simp only [cM_e, cD_e, app_cons', app_nil'] at rest
   generalize trI m (lineT h d) 1 = X at *
   simp only [cO_e, cD_e, evv, e1, e2, e3, e4, e5, ho']
   exact rest _
  ·have hb' : traceB m h d = false := by simpa using hb
   rw [hb'] at e1 e2
   generalize traceM m h d = X at *
   simp only [cO_e, cD_e, evv, e1, e2, e3, ho']
   exact Gets.here rfl
end Go.Proofs.YtpmpggihngmnoaaGreatDoor.Q
