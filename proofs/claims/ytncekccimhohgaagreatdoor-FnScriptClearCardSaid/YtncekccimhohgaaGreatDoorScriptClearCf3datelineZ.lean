/- Contracts: a line that sets the date; the law: scripts have dates. -/
import Derived.Test.YtncekccimhohgaaGreatDoorScriptClearCf2parsedateZ
import Derived.Test.YtncekccimhohgaaGreatDoorFnScriptClearK5
namespace Go.Proofs.YtncekccimhohgaaGreatDoor.Q
open Go Go.AM
set_option linter.unusedSimpArgs false
set_option linter.unusedVariables false
set_option linter.unusedSectionVars false
def dateW : Bs := [100, 97, 116, 101, 32]
theorem g_st7 (b a0 a1 a2 a3 a4 a5 z0 z1 z2 z3 z4 z5 z6 c0 c1 c2 c3 c4 c5 c6 : V) : stO (.ptr 0 7) [c0, c1, c2, c3, c4, c5, c6] [[b, a0, a1, a2, a3, a4, a5, z0, z1, z2, z3, z4, z5, z6]] = some [[b, a0, a1, a2, a3, a4, a5, c0, c1, c2, c3, c4, c5, c6]] := by exact id rfl
theorem fmtD_no {d : Dt} (hv : validT d = true) : (10 : UInt8) ∉ fmtD d /\ fmtD d ≠ [] /\ (fmtD d).length <= 60 := by
 obtain ⟨k, j, dd, hh, mm, ss, q1, q2, q3, q4, q5, q6, q7, q8, q9, q10, q11, q12, q13, q14, q15⟩ := valid_of hv
 have bd := dimI_le d.y d.mo
 have d1 := dec1 dd (by omega) q9
 have d2 := dec4 k q7
 have t1 := dec2 hh (by omega)
 have t2 := dec2 mm (by omega)
 have t3 := dec2 ss (by omega)
 have z1 := dec2 (d.z.natAbs / 60) (by omega)
 have z2 := dec2 (d.z.natAbs % 60) (by omega)
 have mf := mon_fact j q8
 have wf := wd_fact _ (Nat.mod_lt (dbI d.y d.mo d.d).toNat (show 0 < 7 by omega))
 have hwd : wdT d = wdays.getD ((dbI d.y d.mo d.d).toNat % 7) [] := rfl
 rw [<- hwd] at wf
 simp only [Bool.and_eq_true, decide_eq_true_eq] at d1 d2 t1 t2 t3 z1 z2 mf wf
 have pr : ∀ {s : Bs}, (s.all fun b => !wrB b.toNat) = true -> (10 : UInt8) ∉ s := fun h hm => by
  have := List.all_eq_true.1 h _ hm
  exact absurd this (by decide)
 have hR : fmtR d = decT dd 1 ++ 32 :: (monT.getD j [] ++ 32 :: (decT (1970 + k) 4 ++ 32 :: ((decT hh 2 ++ 58 :: (decT mm 2 ++ 58 :: decT ss 2)) ++ 32 :: zoneT d.z))) := by
  unfold fmtR
  rw [q1, q2, q3, q4, q5, q6]
  simp only [Int.toNat_natCast]
  have : (((j + 1 : Nat) : Int) - 1).toNat = j := by omega
  rw [this]
 refine ⟨?_, by rw [fmtD_eq]; simp, ?_⟩
 ·rw [fmtD_eq, hR]
  unfold zoneT
  have c1 := dig_no (c := 10) d1.1.2 (by decide); have c2 := dig_no (c := 10) d2.1.2 (by decide); have c3 := dig_no (c := 10) t1.1.2 (by decide); have c4 := dig_no (c := 10) t2.1.2 (by decide)
  have c5 := dig_no (c := 10) t3.1.2 (by decide); have c6 := dig_no (c := 10) z1.1.2 (by decide); have c7 := dig_no (c := 10) z2.1.2 (by decide)
  have hs : (10 : UInt8) ≠ (if d.z < 0 then 45 else 43) := by split <;> decide
  simp only [List.mem_append, List.mem_cons, List.not_mem_nil, not_or]
  exact ⟨⟨pr wf.2, by decide, not_false⟩, by decide, c1, by decide, pr mf.2, by decide, c2, by decide, ⟨c3, by decide, c4, by decide, c5⟩, by decide, hs, c6, c7⟩
 ·rw [fmtD_eq, hR]
  unfold zoneT
  have := wf.1.2; have := mf.1.2; have := t1.1.1; have := t2.1.1; have := t3.1.1; have := z1.1.1; have := z2.1.1; have := d1.1.1.2; have := d2.1.1
  simp only [List.length_append, List.length_cons, List.length_nil]
  omega
theorem gate_date_c (b s0 s1 s2 s3 s4 s5 : V) (d0 d : Dt) (hv : validT d = true) :
 cv id_impl_gate_line [.ptr 0 0, .str (dateW ++ fmtD d)] [cG b [s0, s1, s2, s3, s4, s5] d0] = some (.str (fmtD d ++ [10]), [cG b [s0, s1, s2, s3, s4, s5] d]) := by
 obtain ⟨h10, hne, hlen⟩ := fmtD_no hv
 have e0 := Cut_c (dateW ++ fmtD d) 32 (by simp [dateW]; omega)
 have hw : dateW ++ fmtD d = [100, 97, 116, 101] ++ [32] ++ fmtD d := rfl
 obtain ⟨q1, q2⟩ := f_cut (c := 32) (a := [100, 97, 116, 101]) (z := fmtD d) (by decide)
 rw [hw] at e0 ⊢
 rw [q1, q2, decide_eq_true (by simp)] at e0
 have e1 := ParseDate_c d hv
 have e2 := impl_FormatDate_c d
 have hf : fmtT d = fmtD d := by unfold fmtT; rw [if_pos hv]
 rw [hf] at e2
 have t1 := t_add .str (fmtD d) [10] (by simp; omega)
 rw [impl_gate_line_eq]
 simp only [List.cons_append, List.nil_append] at e0 ⊢
 rw [cD_e] at e1 e2
 simp only [cG, cD_e, app_cons', app_nil'] at *
 have n1 : ¬ (([100, 97, 116, 101] : Bs) = [115, 97, 121]) := by decide
 have n2 : ¬ (([100, 97, 116, 101] : Bs) = [98, 111, 120]) := by decide
 have n3 : ¬ (([100, 97, 116, 101] : Bs) = [116, 97, 107, 101]) := by decide
 simp only [evv, e0, decide_eq_true_eq, n1, n2, n3, if_false, e1, g_st7, e2, t1]
theorem DrawFormatDate_g (xs : Bs) : Gets2 (cv id_spec_DrawFormatDate [.sl false (vB xs)] []) (fun v H' => ∃ d, v = .agg (cD d)) := by
 refine Gets2.of ?_
 rw [spec_DrawFormatDate_eq]
 have hd : Gets2 (cv id_spec_DrawDateValid [.sl false (vB xs)] []) (fun v H' => ∃ d, v = .agg (cD d)) := by
  refine Gets2.of ?_
  rw [spec_DrawDateValid_eq]
  refine Open_g.bind ?_
  rintro _ H0 ⟨rfl, R0⟩
  simp only [evv]
  refine (l4Draw_g R0 (by omega)).bind ?_
  rintro _ H1 ⟨d, rfl, R1⟩
  have w1 := l4Wrong_g d R1 (by omega)
  simp only [cD_e] at w1
  simp only [evv, cD_e]
  refine w1.bind ?_
  rintro _ H2 ⟨d, rfl, R2⟩
  have w2 := l4Wrong_g d R2 (by omega)
  simp only [cD_e] at w2
  simp only [evv, cD_e]
  refine w2.bind ?_
  rintro _ H3 ⟨d, rfl, R3⟩
  simp only [evv, cD_e]
  exact Gets.here ⟨d, rfl⟩
 refine hd.bind ?_
 rintro _ H1 ⟨d, rfl⟩
 simp only [evv, cD_e]
 exact Gets.here ⟨d, rfl⟩
end Go.Proofs.YtncekccimhohgaaGreatDoor.Q
