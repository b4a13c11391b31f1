/- The laws of traces. -/
import Derived.Test.YtpmpggihngmnoaaGreatDoorTraceDateCc5traceZ
namespace Go.Proofs.YtpmpggihngmnoaaGreatDoor.Q
open Go Go.AM
set_option linter.unusedSimpArgs false
set_option linter.unusedVariables false
set_option linter.unusedSectionVars false
def okB (s : Bs) : Bool := s.all fun b => !wrB b.toNat
theorem okB_app (s t : Bs) : okB (s ++ t) = (okB s && okB t) := by simp [okB, List.all_append]
theorem dgB_ok : ∀ n : Nat, n < 10 -> okB [dgB n] = true := by decide
theorem decF_ok : ∀ (f n k : Nat) (out : Bs), okB out = true -> okB (decF f n k out) = true
 | 0, n, k, out, h => h
 | f + 1, n, k, out, h => by
   simp only [decF]
   split
   ·refine decF_ok f _ _ _ ?_
    have := dgB_ok (n % 10) (by omega)
    have e : dgB (n % 10) :: out = [dgB (n % 10)] ++ out := rfl
    rw [e, okB_app, this, h]; rfl
   ·exact h
theorem decT_ok (n k : Nat) : okB (decT n k) = true := decF_ok _ _ _ _ rfl
theorem dec2_len : ∀ n : Nat, n < 100 -> (decT n 2).length <= 2 := by decide +kernel
theorem dec1_len : ∀ n : Nat, n < 100 -> (decT n 1).length <= 2 := by decide +kernel
theorem dec4_len : ∀ k : Nat, k < 130 -> (decT (1970 + k) 4).length <= 4 := by decide +kernel
theorem wdays_ok : ∀ r : Nat, r < 7 -> okB (wdays.getD r []) = true := by decide
theorem monT_ok : ∀ r : Nat, r < 12 -> okB (monT.getD r []) = true := by decide
theorem fmtD_ok {d : Dt} (h : validT d = true) : okB (fmtD d) = true /\ (fmtD d).length <= 40 := by
 obtain ⟨k, j, dd, hh, mm, ss, q1, q2, q3, q4, q5, q6, q7, q8, q9, q10, q11, q12, q13, q14⟩ := valid_of h
 have bd := dimI_le d.y d.mo
 have w0 : (wdT d).length <= 3 := wdays_len _
 have w1 := monT_len j
 have w2 := dec1_len dd (by omega)
 have w3 := dec4_len k q7
 have w4 := dec2_len hh (by omega)
 have w5 := dec2_len mm (by omega)
 have w6 := dec2_len ss (by omega)
 have w7 := dec2_len (d.z.natAbs / 60) (by omega)
 have w8 := dec2_len (d.z.natAbs % 60) (by omega)
 have w9 : (sgnT d.z).length = 2 := by unfold sgnT; split <;> rfl
 have hres : fmtD d = wdT d ++ [44, 32] ++ decT dd 1 ++ [32] ++ monT.getD j [] ++ [32] ++ decT (1970 + k) 4 ++ [32] ++ decT hh 2 ++ [58] ++ decT mm 2 ++ [58] ++ decT ss 2 ++ sgnT d.z ++ decT (d.z.natAbs / 60) 2 ++ decT (d.z.natAbs % 60) 2 := by
  unfold fmtD
  rw [q1, q2, q3, q4, q5, q6]
  rw [show (((j + 1 : Nat) : Int) - 1).toNat = j by omega]
  simp only [Int.toNat_natCast]
 rw [hres]
 have o0 : okB (wdT d) = true := wdays_ok _ (Nat.mod_lt _ (by omega))
 have o1 : okB (sgnT d.z) = true := by unfold sgnT; split <;> rfl
 refine ⟨?_, ?_⟩
 ·simp only [okB_app, o0, o1, monT_ok j q8, decT_ok, Bool.true_and]; rfl
 ·simp only [List.length_append, List.length_cons, List.length_nil]; omega
def trI (m : Mail) (l : Bs) (i : Nat) : Mail := ⟨m.from_, m.to, List.replicate i l ++ m.lines⟩
theorem hosts_ok {h : Bs} (hh : h ∈ ([[120, 46, 111, 114, 103], [114, 101, 108, 97, 121, 46, 101, 120, 97, 109, 112, 108, 101], [88], []] : List Bs)) : okB h = true /\ h.length <= 60 := by
 simp only [List.mem_cons, List.not_mem_nil, or_false] at hh
 rcases hh with rfl | rfl | rfl | rfl <;> exact ⟨by decide, by decide⟩
theorem cM_inj_e (m : Mail) (o : List V) (h : stripL o = cM m) : stripL o = [.str m.from_, .sl false (vT m.to), .sl false (vT m.lines)] := by rw [h, cM_e]
theorem traceB_of {m : Mail} {h : Bs} {d : Dt} (hb : traceB m h d = true) : mailT m 1 30 = true /\ validT d = true /\ domT h = true /\ m.lines.length ≠ 30 /\ hopsN m.lines < 5 := by
 unfold traceB at hb
 simp only [Bool.and_eq_true, Bool.not_eq_true', decide_eq_false_iff_not] at hb
 exact ⟨hb.1, hb.2.1, hb.2.2.1, hb.2.2.2.1, by omega⟩
theorem FnTraceDate_v (u : V) (h : HasArg (.sl (.int .u8)) u) : ∃ H, cv id_laws_FnTraceDate [u] [] = some (.bool true, H) := by
 obtain ⟨xs, rfl⟩ := argB h
 suffices hg : Gets (cv id_laws_FnTraceDate [.sl false (vB xs)] []) fun r => r.1 = .bool true by
  obtain ⟨⟨v, H⟩, e, h⟩ := hg
  cases h
  exact ⟨H, e⟩
 rw [laws_FnTraceDate_eq]
 simp only [evv, decide_eq_true_eq]
 refine Gets.ite (fun h => ?_) (fun h => ?_)
 ·exact Gets.here rfl
 ·refine (DrawTraceMail_g xs).bind ?_
  rintro _ H1 ⟨m, h, d, rfl, hm, hh⟩
  have hml := hm.2.2.1
  have hhl := (hosts_ok hh).2
  obtain ⟨o, e1, ho, hod, ho3⟩ := impl_TraceMail_c m h d hm.sm (by omega) (by omega)
  have e2 := spec_TraceMail_c m h d hm.sm (by omega) (by omega) (fun _ => l10Mail_c m hm)
  obtain ⟨hX, hXl⟩ := traceM_sm (m := m) (h := h) (d := d) hm.sm (by omega) (by omega)
  have e3 := impl_MailSame_c (traceM m h d) (traceM m h d) hX
  rw [decide_eq_true rfl] at e3
  simp only [cM_e, cD_e] at e1 e2 e3
  rw [cO_e] at e2
  have ho' := cM_inj_e _ _ ho
  by_cases hb : traceB m h d = true
  ·obtain ⟨b1, b2, b3, b4, b5⟩ := traceB_of hb
   have hM : traceM m h d = ⟨m.from_, m.to, lineT h d :: m.lines⟩ := by unfold traceM; rw [if_pos hb]
   have e4 := impl_FormatDate_c d
   have hf : fmtT d = fmtD d := by unfold fmtT; rw [if_pos b2]
   rw [hf] at e4
   simp only [cD_e] at e4
   have e5 := mwTexts_c m.to m.to (by have := hm.2.1.1; omega)
   rw [decide_eq_true rfl] at e5
   rw [hM] at ho' e2 e3
   rw [hb] at e1 e2
   have fl := (fmtD_ok b2).2
   have ll : (lineT h d).length = 13 + h.length + 2 + (fmtD d).length := by
    unfold lineT recBy
    simp only [List.length_append, List.length_cons, List.length_nil]
   have i1 : vIdxV 1 (.sl false (vT (lineT h d :: m.lines))) (.int .i64 0) = some (.elt [.str (lineT h d)] 0) := rfl
   have s1 : vBinV (.int .i64) .sub (.int .i64 ((lineT h d).length : Nat)) (.int .i64 ((fmtD d).length : Nat)) = some (.int .i64 (((lineT h d).length - (fmtD d).length : Nat) : Int)) := n_subN _ _ _ (by omega) (by omega)
   have s2 := t_suf (lineT h d) .i64 ((lineT h d).length - (fmtD d).length) (by omega)
   have s3 : (lineT h d).drop ((lineT h d).length - (fmtD d).length) = fmtD d := by
    have hd : (lineT h d).length - (fmtD d).length = (recBy ++ h ++ [59, 32]).length := by
     rw [ll]; unfold recBy
     simp only [List.length_append, List.length_cons, List.length_nil]; omega
    rw [hd]
    unfold lineT
    exact List.drop_left
   rw [s3] at s2
   simp only [cO_e, cD_e, evv, e1, e2, e3, ho', i1, e4, s1, s2, e5, show (((lineT h d).length : Nat) : Int) > (((fmtD d).length : Nat) : Int) from by omega]
   exact Gets.here rfl
  ·have hb' : traceB m h d = false := by simpa using hb
   rw [hb'] at e1 e2
   generalize traceM m h d = X at *
   simp only [cO_e, cD_e, evv, e1, e2, e3, ho']
   exact Gets.here rfl
end Go.Proofs.YtpmpggihngmnoaaGreatDoor.Q
