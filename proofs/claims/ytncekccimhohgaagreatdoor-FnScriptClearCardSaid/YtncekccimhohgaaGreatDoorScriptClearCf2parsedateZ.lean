/- Contracts: ParseDate reads what FormatDate writes. -/
import Derived.Test.YtncekccimhohgaaGreatDoorScriptClearCf1dateZ
import Derived.Test.YtncekccimhohgaaGreatDoorFnScriptClearK5
namespace Go.Proofs.YtncekccimhohgaaGreatDoor.Q
open Go Go.AM
set_option linter.unusedSimpArgs false
set_option linter.unusedVariables false
set_option linter.unusedSectionVars false
set_option maxRecDepth 100000 in
theorem trim_wd : ∀ r : Nat, r < 7 -> qc id_strings_Trim [.str (wdays.getD r []), .str [32]] = some (.str (wdays.getD r [])) := fun r h => by
 obtain rfl | rfl | rfl | rfl | rfl | rfl | rfl : r = 0 ∨ r = 1 ∨ r = 2 ∨ r = 3 ∨ r = 4 ∨ r = 5 ∨ r = 6 := by omega
 all_goals exact qcE_of 60 (by kernel_rfl)
set_option maxRecDepth 100000 in
theorem same_wd : ∀ r : Nat, r < 7 -> qc id_impl_SameText [.str (wdays.getD r []), .str (wdays.getD r [])] = some (.bool true) := fun r h => by
 obtain rfl | rfl | rfl | rfl | rfl | rfl | rfl : r = 0 ∨ r = 1 ∨ r = 2 ∨ r = 3 ∨ r = 4 ∨ r = 5 ∨ r = 6 := by omega
 all_goals exact qcE_of 60 (by kernel_rfl)
set_option maxRecDepth 100000 in
theorem month_ix : ∀ (j : Nat), j < 12 -> ∀ (D Y T Z : Bs), qc id_slices_IndexFunc___string_string_ [.sl false (vT monthsB), .fn id_impl_ParseDate_2 [.elt [.sl false (vT [D, monT.getD j [], Y, T, Z])] 0]] = some (.int .i64 (j : Int)) := fun j h D Y T Z => by
 obtain rfl | rfl | rfl | rfl | rfl | rfl | rfl | rfl | rfl | rfl | rfl | rfl : j = 0 ∨ j = 1 ∨ j = 2 ∨ j = 3 ∨ j = 4 ∨ j = 5 ∨ j = 6 ∨ j = 7 ∨ j = 8 ∨ j = 9 ∨ j = 10 ∨ j = 11 := by omega
 all_goals exact qcE_of 80 (by kernel_rfl)
theorem delf_c (l : List Bs) (G : VH) (h0 : 0 < l.length) (h1 : l.length <= 1000000) :
 cv id_slices_DeleteFunc___string_string_ [.obs G.length 0 l.length 1, .fn id_impl_ParseDate_1 []] (G ++ [(vR eT l).flatten]) =
  some (.obs (G ++ [(vR eT l).flatten]).length 0 (l.filter fun s => !s.isEmpty).length 1, (G ++ [[]]) ++ [(vR eT (l.filter fun s => !s.isEmpty)).flatten]) := by
 have hm : ∀ l : List Bs, (vR eT l).flatten = l.map .str := fun l => by induction l with | nil => rfl | cons s l ih => show .str s :: (vR eT l).flatten = _; rw [ih]; rfl
 show callV vb _ _ _ = _
 rw [callV_prim vb _ _ _ (g := delfV id_impl_ParseDate_1) rfl]
 have hk : (G ++ [(vR eT l).flatten])[G.length]? = some ((vR eT l).flatten) := by simp
 simp only [delfV, hk, Option.bind_some]
 rw [hm l, strsV_mk]
 simp only [Option.bind_some]
 rw [if_pos ⟨trivial, trivial, trivial, h0, by omega⟩, hm]
 simp
def fmtR (d : Dt) : Bs := decT d.d.toNat 1 ++ 32 :: (monT.getD (d.mo - 1).toNat [] ++ 32 :: (decT d.y.toNat 4 ++ 32 :: ((decT d.h.toNat 2 ++ 58 :: (decT d.mi.toNat 2 ++ 58 :: decT d.s.toNat 2)) ++ 32 :: zoneT d.z)))
theorem fmtD_eq (d : Dt) : fmtD d = wdT d ++ [44] ++ (32 :: fmtR d) := by
 unfold fmtD fmtR zoneT sgnT
 by_cases h : d.z < 0 <;> simp [h]
theorem mon_fact : ∀ j : Nat, j < 12 -> (decide ((32 : UInt8) ∉ monT.getD j []) && decide ((monT.getD j []).length = 3) && ((monT.getD j []).all fun b => !wrB b.toNat)) = true := by decide
theorem wd_fact : ∀ j : Nat, j < 7 -> (decide ((44 : UInt8) ∉ wdays.getD j []) && decide ((wdays.getD j []).length = 3) && ((wdays.getD j []).all fun b => !wrB b.toNat)) = true := by decide
theorem dig_pr {s : Bs} (h : (s.all fun b => digB b.toNat) = true) : (s.all fun b => !wrB b.toNat) = true := by
 rw [List.all_eq_true] at h ⊢
 intro b hb
 have := h b hb
 simp only [digB, wrB, decide_eq_true_eq, Bool.not_eq_true', decide_eq_false_iff_not] at this ⊢
 omega
theorem f_cut {c : UInt8} {a z : Bs} (h : c ∉ a) : cutA c (a ++ [c] ++ z) = a /\ cutZ c (a ++ [c] ++ z) = z := by
 have hi : (a ++ [c] ++ z).idxOf c = a.length := by
  rw [List.append_assoc, List.idxOf_append, if_neg h]; simp
 have hm : c ∈ a ++ [c] ++ z := by simp
 unfold cutA cutZ
 rw [if_pos hm, if_pos hm, hi]
 constructor <;> simp
theorem vo_obs (k o n e : Nat) : vOneV (.obs k o n e) = some (.obs k o n e) := by exact id rfl
theorem ParseDate_c (d : Dt) (hv : validT d = true) : pc id_impl_ParseDate [.str (fmtD d)] = some (.tup [.agg (cD d), .bool true]) := by
 obtain ⟨k, j, dd, hh, mm, ss, q1, q2, q3, q4, q5, q6, q7, q8, q9, q10, q11, q12, q13, q14, q15⟩ := valid_of hv
 have bd := dimI_le d.y d.mo
 have d1 := dec1 dd (by omega) q9
 have d2 := dec4 k q7
 have t1 := dec2 hh (by omega)
 have t2 := dec2 mm (by omega)
 have t3 := dec2 ss (by omega)
 have z1 := dec2 (d.z.natAbs / 60) (by omega)
 have z2 := dec2 (d.z.natAbs % 60) (by omega)
 have mf := mon_fact j q8
 have hr7 : (dbI d.y d.mo d.d).toNat % 7 < 7 := Nat.mod_lt _ (by omega)
 have wf := wd_fact _ hr7
 have w1 := trim_wd _ hr7
 have w2 := same_wd _ hr7
 have w3 := impl_WeekdayOf_c d hv
 have hwd : wdT d = wdays.getD ((dbI d.y d.mo d.d).toNat % 7) [] := rfl
 rw [<- hwd] at wf w1 w2
 simp only [Bool.and_eq_true, decide_eq_true_eq] at d1 d2 t1 t2 t3 z1 z2 mf wf
 obtain ⟨⟨⟨d1l, d1m⟩, d1a⟩, d1v⟩ := d1
 obtain ⟨⟨d2l, d2a⟩, d2v⟩ := d2
 have g1 := digits_c (decT dd 1) 1 2 (by omega) d1a (by omega) (by omega)
 have g2 := digits_c (decT (1970 + k) 4) 4 4 (by omega) d2a (by omega) (by omega)
 rw [d1v] at g1
 rw [d2v] at g2
 have g3 := parseTime_c hh mm ss (by omega) (by omega) (by omega)
 have g4 := parseZone_c d.z q14 q15
 have e9 := impl_DateValid_c d
 rw [hv] at e9
 have hT : 32 ∉ decT hh 2 ++ 58 :: (decT mm 2 ++ 58 :: decT ss 2) := by
  have h1 := dig_no (c := 32) t1.1.2 (by decide)
  have h2 := dig_no (c := 32) t2.1.2 (by decide)
  have h3 := dig_no (c := 32) t3.1.2 (by decide)
  simp only [List.mem_append, List.mem_cons, not_or]
  exact ⟨h1, by decide, h2, by decide, h3⟩
 have hZ : (32 : UInt8) ∉ zoneT d.z := by
  have h1 := dig_no (c := 32) z1.1.2 (by decide)
  have h2 := dig_no (c := 32) z2.1.2 (by decide)
  unfold zoneT
  simp only [List.mem_append, List.mem_cons, not_or]
  exact ⟨by split <;> decide, h1, h2⟩
 have hR : fmtR d = decT dd 1 ++ 32 :: (monT.getD j [] ++ 32 :: (decT (1970 + k) 4 ++ 32 :: ((decT hh 2 ++ 58 :: (decT mm 2 ++ 58 :: decT ss 2)) ++ 32 :: zoneT d.z))) := by
  unfold fmtR
  rw [q1, q2, q3, q4, q5, q6]
  simp only [Int.toNat_natCast]
  have : (((j + 1 : Nat) : Int) - 1).toNat = j := by omega
  rw [this]
 have hsp : splitB 32 (32 :: fmtR d) = [[], decT dd 1, monT.getD j [], decT (1970 + k) 4, decT hh 2 ++ 58 :: (decT mm 2 ++ 58 :: decT ss 2), zoneT d.z] := by
  have h0 := splitB_at (c := 32) (a := []) (z := fmtR d) (by simp)
  rw [List.nil_append] at h0
  rw [h0, hR, splitB_at (dig_no d1a (by decide)), splitB_at mf.1.1, splitB_at (dig_no d2a (by decide)), splitB_at hT, splitB_no _ _ hZ]
 have hlen : (fmtD d).length <= 60 := by
  rw [fmtD_eq, hR]
  unfold zoneT
  have := wf.1.2; have := mf.1.2; have := t1.1.1; have := t2.1.1; have := t3.1.1; have := z1.1.1; have := z2.1.1
  simp only [List.length_append, List.length_cons, List.length_nil]
  omega
 have htx : textT (fmtD d) = true := by
  have ha : ((fmtD d).all fun b => !wrB b.toNat) = true := by
   rw [fmtD_eq, hR]
   unfold zoneT
   have c1 := dig_pr d1a; have c2 := dig_pr d2a; have c3 := dig_pr t1.1.2; have c4 := dig_pr t2.1.2; have c5 := dig_pr t3.1.2; have c6 := dig_pr z1.1.2; have c7 := dig_pr z2.1.2
   have hs : (!wrB (((if d.z < 0 then 45 else 43 : UInt8)).toNat : Int)) = true := by split <;> decide
   simp only [List.all_append, List.all_cons, List.all_nil, c1, c2, c3, c4, c5, c6, c7, wf.2, mf.2, hs, Bool.and_true, Bool.true_and]
   decide
  unfold textT
  rw [decide_eq_true (by omega), Bool.and_true]
  rw [List.all_eq_true] at ha
  simp only [Bool.not_eq_true', List.any_eq_false]
  intro b hb
  have := ha b hb
  simpa using this
 have e1 := TextValid_c (fmtD d) (by omega)
 rw [htx] at e1
 have e2 := Cut_c (fmtD d) 44 (by omega)
 obtain ⟨u1, u2⟩ := f_cut (z := 32 :: fmtR d) wf.1.1
 rw [<- fmtD_eq] at u1 u2
 have hm : (44 : UInt8) ∈ fmtD d := by rw [fmtD_eq]; simp
 rw [u1, u2, decide_eq_true hm] at e2
 have hfr : (fmtR d).length <= 60 := by rw [fmtD_eq] at hlen; simp only [List.length_append, List.length_cons] at hlen; omega
 have e3 := Split_g (32 :: fmtR d) 32 [] (by simp; omega)
 rw [hsp] at e3
 have e4 := delf_c [[], decT dd 1, monT.getD j [], decT (1970 + k) 4, decT hh 2 ++ 58 :: (decT mm 2 ++ 58 :: decT ss 2), zoneT d.z] [] (by simp) (by simp)
 have n1 : decT dd 1 ≠ [] := fun e => by rw [e] at d1l; simp at d1l
 have n2 : monT.getD j [] ≠ [] := fun e => by have := mf.1.2; rw [e] at this; simp at this
 have n3 : decT (1970 + k) 4 ≠ [] := fun e => by rw [e] at d2l; simp at d2l
 have hfl : ([[], decT dd 1, monT.getD j [], decT (1970 + k) 4, decT hh 2 ++ 58 :: (decT mm 2 ++ 58 :: decT ss 2), zoneT d.z].filter fun s : Bs => !s.isEmpty) = [decT dd 1, monT.getD j [], decT (1970 + k) 4, decT hh 2 ++ 58 :: (decT mm 2 ++ 58 :: decT ss 2), zoneT d.z] := by
  have c : ∀ {s : Bs}, s ≠ [] -> s.isEmpty = false := fun {s} h => by cases s with | nil => exact absurd rfl h | cons => rfl
  simp only [List.filter_cons, c n1, c n2, c n3, List.isEmpty_nil, Bool.not_true, Bool.not_false, if_true, Bool.false_eq_true, if_false, List.filter_nil, c (show decT hh 2 ++ 58 :: (decT mm 2 ++ 58 :: decT ss 2) ≠ [] by simp), c (show zoneT d.z ≠ [] by simp [zoneT])]
 rw [hfl] at e4
 have e5 := month_ix j q8 (decT dd 1) (decT (1970 + k) 4) (decT hh 2 ++ 58 :: (decT mm 2 ++ 58 :: decT ss 2)) (zoneT d.z)
 have mb : vSliceAV globB 12 1 (.gp 0 0) = some (.sl false (vT monthsB)) := rfl
 have a1 : vBinV (.int .i64) .add (.int .i64 (j : Nat)) (.int .i64 1) = some (.int .i64 ((j + 1 : Nat) : Int)) := n_addN _ j 1 (by omega)
 generalize decT dd 1 = D at *
 generalize monT.getD j [] = M at *
 generalize decT (1970 + k) 4 = Y at *
 generalize decT hh 2 ++ 58 :: (decT mm 2 ++ 58 :: decT ss 2) = T at *
 generalize zoneT d.z = Z at *
 have e4' : cv id_slices_DeleteFunc___string_string_ [.obs 0 0 6 1, .fn id_impl_ParseDate_1 []] [[.str [], .str D, .str M, .str Y, .str T, .str Z]] = some (.obs 1 0 5 1, [[], [.str D, .str M, .str Y, .str T, .str Z]]) := e4
 have e3' : pcg id_strings_Split [] [.str (32 :: fmtR d), .str [32]] = some (.obs 0 0 6 1, [[.str [], .str D, .str M, .str Y, .str T, .str Z]]) := e3
 have o1 : stO (.ptr 2 0) [.obs 1 0 5 1] [[], [.str D, .str M, .str Y, .str T, .str Z], [.sl true []]] = some [[], [.str D, .str M, .str Y, .str T, .str Z], [.obs 1 0 5 1]] := rfl
 have o2 : ldO globB false false 1 (.ptr 2 0) [[], [.str D, .str M, .str Y, .str T, .str Z], [.obs 1 0 5 1]] = some (.obs 1 0 5 1, [[], [.str D, .str M, .str Y, .str T, .str Z], [.obs 1 0 5 1]]) := rfl
 have i0 : vIdxV 1 (.obs 1 0 5 1) (.int .i64 0) = some (.ptr 1 0) := rfl
 have i2 : vIdxV 1 (.obs 1 0 5 1) (.int .i64 2) = some (.ptr 1 2) := rfl
 have i3 : vIdxV 1 (.obs 1 0 5 1) (.int .i64 3) = some (.ptr 1 3) := rfl
 have i4 : vIdxV 1 (.obs 1 0 5 1) (.int .i64 4) = some (.ptr 1 4) := rfl
 have l0 : ldO globB false false 1 (.ptr 1 0) [[], [.str D, .str M, .str Y, .str T, .str Z], [.obs 1 0 5 1]] = some (.str D, [[], [.str D, .str M, .str Y, .str T, .str Z], [.obs 1 0 5 1]]) := rfl
 have l2 : ldO globB false false 1 (.ptr 1 2) [[], [.str D, .str M, .str Y, .str T, .str Z], [.obs 1 0 5 1]] = some (.str Y, [[], [.str D, .str M, .str Y, .str T, .str Z], [.obs 1 0 5 1]]) := rfl
 have l3 : ldO globB false false 1 (.ptr 1 3) [[], [.str D, .str M, .str Y, .str T, .str Z], [.obs 1 0 5 1]] = some (.str T, [[], [.str D, .str M, .str Y, .str T, .str Z], [.obs 1 0 5 1]]) := rfl
 have e5' : qcd id_slices_IndexFunc___string_string_ [[], [.str D, .str M, .str Y, .str T, .str Z], [.obs 1 0 5 1]] [.sl false (vT monthsB), .fn id_impl_ParseDate_2 [.ptr 2 0]] = some (.int .i64 (j : Int)) := e5
 have lv : vLenVV (.obs 1 0 5 1) = some (.int .i64 5) := rfl
 have hl2 : ([[], [.str D, .str M, .str Y, .str T, .str Z]] : VH).length = 2 := rfl
 have hl3 : ([[], [.str D, .str M, .str Y, .str T, .str Z], [.obs 1 0 5 1]] : VH).length = 3 := rfl
 have ap2 : ([[], [.str D, .str M, .str Y, .str T, .str Z]] : VH) ++ [[.sl true []]] = [[], [.str D, .str M, .str Y, .str T, .str Z], [.sl true []]] := rfl
 have ap3 : ([[], [.str D, .str M, .str Y, .str T, .str Z], [.obs 1 0 5 1]] : VH) ++ [[.int .i64 0, .int .i64 0, .int .i64 0]] = [[], [.str D, .str M, .str Y, .str T, .str Z], [.obs 1 0 5 1], [.int .i64 0, .int .i64 0, .int .i64 0]] := rfl
 have o3 : ∀ x y z : V, stO (.ptr 3 0) [x, y, z] [[], [.str D, .str M, .str Y, .str T, .str Z], [.obs 1 0 5 1], [.int .i64 0, .int .i64 0, .int .i64 0]] = some [[], [.str D, .str M, .str Y, .str T, .str Z], [.obs 1 0 5 1], [x, y, z]] := fun _ _ _ => rfl
 have o4 : ∀ x y z : V, ldO globB false false 1 (.ptr 2 0) [[], [.str D, .str M, .str Y, .str T, .str Z], [.obs 1 0 5 1], [x, y, z]] = some (.obs 1 0 5 1, [[], [.str D, .str M, .str Y, .str T, .str Z], [.obs 1 0 5 1], [x, y, z]]) := fun _ _ _ => rfl
 have l4 : ∀ x y z : V, ldO globB false false 1 (.ptr 1 4) [[], [.str D, .str M, .str Y, .str T, .str Z], [.obs 1 0 5 1], [x, y, z]] = some (.str Z, [[], [.str D, .str M, .str Y, .str T, .str Z], [.obs 1 0 5 1], [x, y, z]]) := fun _ _ _ => rfl
 have y0 : vIdxAV 3 1 (.ptr 3 0) (.int .i64 0) = some (.ptr 3 0) := rfl
 have y1 : vIdxAV 3 1 (.ptr 3 0) (.int .i64 1) = some (.ptr 3 1) := rfl
 have y2 : vIdxAV 3 1 (.ptr 3 0) (.int .i64 2) = some (.ptr 3 2) := rfl
 have v0 : ∀ (x y z : Int), ldO globB false false 1 (.ptr 3 0) [[], [.str D, .str M, .str Y, .str T, .str Z], [.obs 1 0 5 1], [.int .i64 x, .int .i64 y, .int .i64 z]] = some (.int .i64 x, [[], [.str D, .str M, .str Y, .str T, .str Z], [.obs 1 0 5 1], [.int .i64 x, .int .i64 y, .int .i64 z]]) := fun _ _ _ => rfl
 have v1 : ∀ (x y z : Int), ldO globB false false 1 (.ptr 3 1) [[], [.str D, .str M, .str Y, .str T, .str Z], [.obs 1 0 5 1], [.int .i64 x, .int .i64 y, .int .i64 z]] = some (.int .i64 y, [[], [.str D, .str M, .str Y, .str T, .str Z], [.obs 1 0 5 1], [.int .i64 x, .int .i64 y, .int .i64 z]]) := fun _ _ _ => rfl
 have v2 : ∀ (x y z : Int), ldO globB false false 1 (.ptr 3 2) [[], [.str D, .str M, .str Y, .str T, .str Z], [.obs 1 0 5 1], [.int .i64 x, .int .i64 y, .int .i64 z]] = some (.int .i64 z, [[], [.str D, .str M, .str Y, .str T, .str Z], [.obs 1 0 5 1], [.int .i64 x, .int .i64 y, .int .i64 z]]) := fun _ _ _ => rfl
 rw [cD_e] at e9 w3 ⊢
 rw [q1, q2, q3, q4, q5, q6] at e9 w3 ⊢
 refine pc_of (H := [[], [.str D, .str M, .str Y, .str T, .str Z], [.obs 1 0 5 1], [.int .i64 (hh : Nat), .int .i64 (mm : Nat), .int .i64 (ss : Nat)]]) ?_ (by simp only [evv]) (by simp only [evv])
 show cv _ _ _ = _
 rw [impl_ParseDate_eq]
 simp only [evv, e1, e2, e3', e4', vo_obs, hl2, ap2, o1, o2, lv, i0, l0, g1, mb, e5', a1, i2, l2, g2, i3, l3, g3, hl3, ap3, o3, o4, i4, l4, g4, y0, y1, y2, v0, v1, v2, vo_int, e9, w1, w2, w3]
end Go.Proofs.YtncekccimhohgaaGreatDoor.Q
