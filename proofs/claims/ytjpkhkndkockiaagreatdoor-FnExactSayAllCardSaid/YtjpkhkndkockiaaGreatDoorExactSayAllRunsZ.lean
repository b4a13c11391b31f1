/- What a call of each function comes to. -/
import Derived.Test.YtjpkhkndkockiaaGreatDoorExactSayAllBaseZ
namespace Go.Proofs.YtjpkhkndkockiaaGreatDoor.Q
open Go Go.AM Go.Proofs
set_option linter.unusedVariables false
set_option maxRecDepth 100000
theorem laws_FnExactSayAll_eq (a0 a1 : V) (H : VH) : cv id_laws_FnExactSayAll [a0, a1] H =
 (aggNV 6 a0).bind fun c1 =>
 (qco id_laws_szSession H [(.agg [(strip (c1.getD 0 .nilp)), (strip (c1.getD 1 .nilp)), (strip (c1.getD 2 .nilp)), (strip (c1.getD 3 .nilp)), (strip (c1.getD 4 .nilp)), (strip (c1.getD 5 .nilp))]), (.int .i64 1048576)]).bind fun x6 =>
 (vBinV (.int .i64) .lss x6 (.int .i64 0)).bind fun x9 =>
 ifVV x9 (
 some ((.bool true), H)) (
 (qco id_laws_szStringS H [(strip a1), (strip x6)]).bind fun x13 =>
 (vBinV (.int .i64) .lss x13 (.int .i64 0)).bind fun x16 =>
 ifVV x16 (
 some ((.bool true), H)) (
 (cv id_laws_toSession [(.agg [(strip (strip (c1.getD 0 .nilp))), (strip (strip (c1.getD 1 .nilp))), (strip (strip (c1.getD 2 .nilp))), (strip (strip (c1.getD 3 .nilp))), (strip (strip (c1.getD 4 .nilp))), (strip (strip (c1.getD 5 .nilp)))])] H).bind fun r20 =>
 (cv id_laws_toStringS [(strip (strip a1))] r20.2).bind fun r23 =>
 (pco id_spec_SayAll r23.2 [r20.1, r23.1]).bind fun x24 =>
 (vExtV x24 0).bind fun x26 =>
 (vExtV x24 1).bind fun x27 =>
 (vExtV x24 2).bind fun x28 =>
 (aggNV 6 (strip x26)).bind fun c31 =>
 (cv id_laws_toSession [(.agg [(strip (strip (c1.getD 0 .nilp))), (strip (strip (c1.getD 1 .nilp))), (strip (strip (c1.getD 2 .nilp))), (strip (strip (c1.getD 3 .nilp))), (strip (strip (c1.getD 4 .nilp))), (strip (strip (c1.getD 5 .nilp)))])] r23.2).bind fun r36 =>
 (aggNV 6 r36.1).bind fun c39 =>
 (cv id_laws_toStringS [(strip (strip a1))] r36.2).bind fun r42 =>
 (pcu id_impl_SayAll r42.2 [(.agg [(strip (c39.getD 0 .nilp)), (strip (c39.getD 1 .nilp)), (strip (c39.getD 2 .nilp)), (strip (c39.getD 3 .nilp)), (strip (c39.getD 4 .nilp)), (strip (c39.getD 5 .nilp))]), (strip (strip r42.1))]).bind fun x46 =>
 promB 3 x46 r42.2 fun o47 h48 =>
 (vExtV o47 0).bind fun x50 =>
 (vExtV o47 1).bind fun x51 =>
 (vExtV o47 2).bind fun x52 =>
 (aggNV 6 (strip x50)).bind fun c55 =>
 (id (
 (qco id_laws_eqSession h48 [(.agg [(strip (c55.getD 0 .nilp)), (strip (c55.getD 1 .nilp)), (strip (c55.getD 2 .nilp)), (strip (c55.getD 3 .nilp)), (strip (c55.getD 4 .nilp)), (strip (c55.getD 5 .nilp))]), (.agg [(strip (c31.getD 0 .nilp)), (strip (c31.getD 1 .nilp)), (strip (c31.getD 2 .nilp)), (strip (c31.getD 3 .nilp)), (strip (c31.getD 4 .nilp)), (strip (c31.getD 5 .nilp))])]).bind fun x60 =>
 (vUnV .not x60).bind fun x61 =>
 ifGV x61 (
 some (0, [(.bool false)], h48)) (
 (qco id_laws_eqIntS h48 [(strip (strip (strip x51))), (strip (strip (strip x27)))]).bind fun x69 =>
 (vUnV .not x69).bind fun x70 =>
 ifGV x70 (
 some (0, [(.bool false)], h48)) (
 (vBinV .bool .neq (strip x52) (strip x28)).bind fun x77 =>
 ifVV x77 (
 some (0, [(.bool false)], h48)) (
 some (1, [a1, (strip (strip x27)), (strip (strip x28)), (strip r42.1), (strip (strip x51)), (strip (strip x52)), (c1.getD 0 .nilp), (c1.getD 1 .nilp), (c1.getD 2 .nilp), (c1.getD 3 .nilp), (c1.getD 4 .nilp), (c1.getD 5 .nilp), (c31.getD 0 .nilp), (c31.getD 1 .nilp), (c31.getD 2 .nilp), (c31.getD 3 .nilp), (c31.getD 4 .nilp), (c31.getD 5 .nilp), (c39.getD 0 .nilp), (c39.getD 1 .nilp), (c39.getD 2 .nilp), (c39.getD 3 .nilp), (c39.getD 4 .nilp), (c39.getD 5 .nilp), (c55.getD 0 .nilp), (c55.getD 1 .nilp), (c55.getD 2 .nilp), (c55.getD 3 .nilp), (c55.getD 4 .nilp), (c55.getD 5 .nilp)], h48)))) : Option (Nat × List V × VH))).bind fun r80 =>
 inN r80.1 [
 gotV 1 r80.2.1 fun v81 =>
 some ((v81 0), r80.2.2),
 gotV 30 r80.2.1 fun v82 =>
 (cv id_laws_toSession [(.agg [(strip (strip (v82 6))), (strip (strip (v82 7))), (strip (strip (v82 8))), (strip (strip (v82 9))), (strip (strip (v82 10))), (strip (strip (v82 11)))])] r80.2.2).bind fun r86 =>
 (qco id_laws_eqSession r86.2 [(.agg [(strip (v82 18)), (strip (v82 19)), (strip (v82 20)), (strip (v82 21)), (strip (v82 22)), (strip (v82 23))]), r86.1]).bind fun x87 =>
 (vUnV .not x87).bind fun x88 =>
 ifVV x88 (
 some ((.bool false), r86.2)) (
 (cv id_laws_toStringS [(strip (strip (v82 0)))] r86.2).bind fun r93 =>
 (qco id_laws_eqStringS r93.2 [(strip (v82 3)), r93.1]).bind fun x94 =>
 (vUnV .not x94).bind fun x95 =>
 ifVV x95 (
 some ((.bool false), r93.2)) (
 (cv id_laws_markSession [(.agg [(strip (strip (v82 18))), (strip (strip (v82 19))), (strip (strip (v82 20))), (strip (strip (v82 21))), (strip (strip (v82 22))), (strip (strip (v82 23)))]), (.int .i64 1)] r93.2).bind fun r101 =>
 (cv id_laws_markStringS [(strip (strip (v82 3))), (strip r101.1)] r101.2).bind fun r106 =>
 (id (
 (vBinV (.int .i64) .lss r106.1 (.int .i64 0)).bind fun x109 =>
 ifGV x109 (
 some (0, [(.bool false)], r106.2)) (
 (qco id_laws_eqSession r106.2 [(.agg [(strip (v82 24)), (strip (v82 25)), (strip (v82 26)), (strip (v82 27)), (strip (v82 28)), (strip (v82 29))]), (.agg [(strip (v82 12)), (strip (v82 13)), (strip (v82 14)), (strip (v82 15)), (strip (v82 16)), (strip (v82 17))])]).bind fun x119 =>
 (vUnV .not x119).bind fun x120 =>
 ifGV x120 (
 some (0, [(.bool false)], r106.2)) (
 (qco id_laws_eqIntS r106.2 [(strip (v82 4)), (strip (v82 1))]).bind fun x129 =>
 (vUnV .not x129).bind fun x130 =>
 ifGV x130 (
 some (0, [(.bool false)], r106.2)) (
 (vBinV .bool .neq (v82 5) (v82 2)).bind fun x137 =>
 ifVV x137 (
 some (0, [(.bool false)], r106.2)) (
 some (1, [(v82 0), (v82 1), (strip (v82 2)), (v82 4), (v82 6), (v82 7), (v82 8), (v82 9), (v82 10), (v82 11), (v82 12), (v82 13), (v82 14), (v82 15), (v82 16), (v82 17), (v82 24), (v82 25), (v82 26), (v82 27), (v82 28), (v82 29)], r106.2))))) : Option (Nat × List V × VH))).bind fun r140 =>
 inN r140.1 [
 gotV 1 r140.2.1 fun v141 =>
 some ((v141 0), r140.2.2),
 gotV 22 r140.2.1 fun v142 =>
 (cv id_laws_markSession [(.agg [(strip (strip (v142 16))), (strip (strip (v142 17))), (strip (strip (v142 18))), (strip (strip (v142 19))), (strip (strip (v142 20))), (strip (strip (v142 21)))]), (.int .i64 1)] r140.2.2).bind fun r147 =>
 (cv id_laws_markIntS [(strip (strip (v142 3))), (strip r147.1)] r147.2).bind fun r152 =>
 (qco id_laws_heldSession r152.2 [(.agg [(strip (v142 16)), (strip (v142 17)), (strip (v142 18)), (strip (v142 19)), (strip (v142 20)), (strip (v142 21))]), (.int .i64 1)]).bind fun x157 =>
 (vBinV (.int .i64) .lss x157 (.int .i64 0)).bind fun x160 =>
 ifVV x160 (
 some ((.bool false), r152.2)) (
 (qco id_laws_heldIntS r152.2 [(strip (v142 3)), (strip x157)]).bind fun x164 =>
 (vBinV (.int .i64) .lss x164 (.int .i64 0)).bind fun x167 =>
 ifVV x167 (
 some ((.bool false), r152.2)) (
 (vBinV (.int .i64) .neq (strip x164) r152.1).bind fun x171 =>
 ifVV x171 (
 some ((.bool false), r152.2)) (
 (cv id_laws_toSession [(.agg [(strip (strip (v142 4))), (strip (strip (v142 5))), (strip (strip (v142 6))), (strip (strip (v142 7))), (strip (strip (v142 8))), (strip (strip (v142 9)))])] r152.2).bind fun r175 =>
 (cv id_laws_toStringS [(strip (strip (v142 0)))] r175.2).bind fun r178 =>
 (pcu id_impl_SayAll r178.2 [r175.1, r178.1]).bind fun x179 =>
 promB 3 x179 r178.2 fun o180 h181 =>
 (vExtV o180 0).bind fun x183 =>
 (vExtV o180 1).bind fun x184 =>
 (vExtV o180 2).bind fun x185 =>
 (aggNV 6 (strip x183)).bind fun c188 =>
 (id (
 (qco id_laws_eqSession h181 [(.agg [(strip (c188.getD 0 .nilp)), (strip (c188.getD 1 .nilp)), (strip (c188.getD 2 .nilp)), (strip (c188.getD 3 .nilp)), (strip (c188.getD 4 .nilp)), (strip (c188.getD 5 .nilp))]), (.agg [(strip (v142 10)), (strip (v142 11)), (strip (v142 12)), (strip (v142 13)), (strip (v142 14)), (strip (v142 15))])]).bind fun x193 =>
 (vUnV .not x193).bind fun x194 =>
 ifGV x194 (
 some (0, [(.bool false)], h181)) (
 (qco id_laws_eqIntS h181 [(strip (strip (strip x184))), (strip (v142 1))]).bind fun x202 =>
 (vUnV .not x202).bind fun x203 =>
 ifGV x203 (
 some (0, [(.bool false)], h181)) (
 (vBinV .bool .neq (strip x185) (v142 2)).bind fun x210 =>
 ifVV x210 (
 some (0, [(.bool false)], h181)) (
 some (1, [(v142 3), (strip r152.1), (v142 16), (v142 17), (v142 18), (v142 19), (v142 20), (v142 21)], h181)))) : Option (Nat × List V × VH))).bind fun r213 =>
 inN r213.1 [
 gotV 1 r213.2.1 fun v214 =>
 some ((v214 0), r213.2.2),
 gotV 8 r213.2.1 fun v215 =>
 (qco id_laws_heldSession r213.2.2 [(.agg [(strip (v215 2)), (strip (v215 3)), (strip (v215 4)), (strip (v215 5)), (strip (v215 6)), (strip (v215 7))]), (.int .i64 1)]).bind fun x219 =>
 (vBinV (.int .i64) .lss x219 (.int .i64 0)).bind fun x222 =>
 ifVV x222 (
 some ((.bool false), r213.2.2)) (
 (qco id_laws_heldIntS r213.2.2 [(strip (v215 0)), (strip x219)]).bind fun x226 =>
 (vBinV (.int .i64) .lss x226 (.int .i64 0)).bind fun x229 =>
 ifVV x229 (
 some ((.bool false), r213.2.2)) (
 (vBinV (.int .i64) .neq (strip x226) (v215 1)).bind fun x233 =>
 ifVV x233 (
 some ((.bool false), r213.2.2)) (
 some ((.bool true), r213.2.2))))])))]))])) := (callV_eq vb _ _ _ rfl).trans (by kernel_rfl)
theorem laws_szSession_eq (a0 a1 : V) (H : VH) : cv id_laws_szSession [a0, a1] H =
 (aggNV 6 a0).bind fun c1 =>
 (vLenSV (strip (c1.getD 1 .nilp))).bind fun x6 =>
 (vBinV (.int .i64) .sub a1 x6).bind fun x7 =>
 (vBinV (.int .i64) .lss x7 (.int .i64 0)).bind fun x10 =>
 ifVV x10 (
 some ((.int .i64 (-1)), H)) (
 (qc id_laws_szMail [(frz H (.agg [(strip (c1.getD 2 .nilp)), (strip (c1.getD 3 .nilp)), (strip (c1.getD 4 .nilp))])), (frz H (strip x7))]).bind fun x15 =>
 (vBinV (.int .i64) .lss x15 (.int .i64 0)).bind fun x18 =>
 ifVV x18 (
 some ((.int .i64 (-1)), H)) (
 (qc id_laws_szMailS [(frz H (strip (c1.getD 5 .nilp))), (frz H (strip x15))]).bind fun x23 =>
 (vBinV (.int .i64) .lss x23 (.int .i64 0)).bind fun x26 =>
 ifVV x26 (
 some ((.int .i64 (-1)), H)) (
 some ((strip x23), H)))) := (callV_eq vb _ _ _ rfl).trans (by kernel_rfl)
theorem laws_szMail_eq (a0 a1 : V) (H : VH) : cv id_laws_szMail [a0, a1] H =
 (aggNV 3 a0).bind fun c1 =>
 (vLenSV (strip (c1.getD 0 .nilp))).bind fun x6 =>
 (vBinV (.int .i64) .sub a1 x6).bind fun x7 =>
 (vBinV (.int .i64) .lss x7 (.int .i64 0)).bind fun x10 =>
 ifVV x10 (
 some ((.int .i64 (-1)), H)) (
 (qc id_laws_szStringS [(frz H (strip (c1.getD 1 .nilp))), (frz H (strip x7))]).bind fun x15 =>
 (vBinV (.int .i64) .lss x15 (.int .i64 0)).bind fun x18 =>
 ifVV x18 (
 some ((.int .i64 (-1)), H)) (
 (qc id_laws_szStringS [(frz H (strip (c1.getD 2 .nilp))), (frz H (strip x15))]).bind fun x23 =>
 (vBinV (.int .i64) .lss x23 (.int .i64 0)).bind fun x26 =>
 ifVV x26 (
 some ((.int .i64 (-1)), H)) (
 some ((strip x23), H)))) := (callV_eq vb _ _ _ rfl).trans (by kernel_rfl)
noncomputable def laws_szStringS_l5 : List V -> VH -> Option (Option Nat × List V × VH) := roundV (vb.ctx cv lpW') (vb.b.ann 12) (vb.takes 12) ⟨⟨[0, 1, 5], [], []⟩, [(.exit 0, ⟨[1], [], []⟩), (.ret, ⟨[4], [], []⟩)]⟩ (loopIn Tryz.f12 5)
theorem laws_szStringS_l5_eq (v0 v1 v2 : V) (H : VH) : laws_szStringS_l5 [v0, v1, v2] H =
 (vLenVV (strip v0)).bind fun x12 =>
 (vBinV (.int .i64) .lss v2 x12).bind fun x13 =>
 ifVV x13 (
 (vIdxV 1 (strip v0) (strip v2)).bind fun x17 =>
 (ldO globB false false 1 x17 H).bind fun r19 =>
 (vLenSV r19.1).bind fun x20 =>
 (vBinV (.int .i64) .sub v1 x20).bind fun x21 =>
 (vBinV (.int .i64) .lss x21 (.int .i64 0)).bind fun x24 =>
 ifVV x24 (
 some (some 1, [(.int .i64 (-1))], r19.2)) (
 (vBinV (.int .i64) .add (strip (strip v2)) (.int .i64 1)).bind fun x27 =>
 some (none, [v0, (strip x21), x27], r19.2))) (
 some (some 0, [v1], H)) := by kernel_rfl
theorem laws_szStringS_eq (a0 a1 : V) (H : VH) : cv id_laws_szStringS [a0, a1] H =
 (vLenVV (strip a0)).bind fun x3 =>
 (vBinV (.int .i64) .sub a1 x3).bind fun x4 =>
 (vBinV (.int .i64) .lss x4 (.int .i64 0)).bind fun x7 =>
 ifVV x7 (
 some ((.int .i64 (-1)), H)) (
 (lpW' laws_szStringS_l5 [a0, (strip x4), (.int .i64 0)] H).bind fun r29 =>
 inN r29.1 [
 gotV 1 r29.2.1 fun v30 =>
 some ((v30 0), r29.2.2),
 gotV 1 r29.2.1 fun v33 =>
 some ((v33 0), r29.2.2)]) := (callV_eq vb _ _ _ rfl).trans (by kernel_rfl)
noncomputable def laws_szMailS_l5 : List V -> VH -> Option (Option Nat × List V × VH) := roundV (vb.ctx cv lpW') (vb.b.ann 22) (vb.takes 22) ⟨⟨[0, 1, 5], [], []⟩, [(.exit 0, ⟨[1], [], []⟩), (.ret, ⟨[4], [], []⟩)]⟩ (loopIn Tryz.f22 5)
theorem laws_szMailS_l5_eq (v0 v1 v2 : V) (H : VH) : laws_szMailS_l5 [v0, v1, v2] H =
 (vLenVV (strip v0)).bind fun x12 =>
 (vBinV (.int .i64) .lss v2 x12).bind fun x13 =>
 ifVV x13 (
 (vIdxV 3 (strip v0) (strip v2)).bind fun x16 =>
 (ldO globB false true 3 x16 H).bind fun r18 =>
 (qc id_laws_szMail [(frz r18.2 r18.1), (frz r18.2 v1)]).bind fun x20 =>
 (vBinV (.int .i64) .lss x20 (.int .i64 0)).bind fun x23 =>
 ifVV x23 (
 some (some 1, [(.int .i64 (-1))], r18.2)) (
 (vBinV (.int .i64) .add (strip (strip v2)) (.int .i64 1)).bind fun x26 =>
 some (none, [v0, (strip x20), x26], r18.2))) (
 some (some 0, [v1], H)) := by kernel_rfl
theorem laws_szMailS_eq (a0 a1 : V) (H : VH) : cv id_laws_szMailS [a0, a1] H =
 (vLenVV (strip a0)).bind fun x3 =>
 (vBinV (.int .i64) .sub a1 x3).bind fun x4 =>
 (vBinV (.int .i64) .lss x4 (.int .i64 0)).bind fun x7 =>
 ifVV x7 (
 some ((.int .i64 (-1)), H)) (
 (lpW' laws_szMailS_l5 [a0, (strip x4), (.int .i64 0)] H).bind fun r28 =>
 inN r28.1 [
 gotV 1 r28.2.1 fun v29 =>
 some ((v29 0), r28.2.2),
 gotV 1 r28.2.1 fun v32 =>
 some ((v32 0), r28.2.2)]) := (callV_eq vb _ _ _ rfl).trans (by kernel_rfl)
theorem laws_toSession_eq (a0 : V) (H : VH) : cv id_laws_toSession [a0] H =
 (aggNV 6 a0).bind fun c1 =>
 (vOneV (strip (c1.getD 0 .nilp))).bind fun y8 =>
 (vOneV (strip (c1.getD 1 .nilp))).bind fun y13 =>
 (cv id_laws_toMail [(.agg [(strip (strip (c1.getD 2 .nilp))), (strip (strip (c1.getD 3 .nilp))), (strip (strip (c1.getD 4 .nilp)))])] H).bind fun r17 =>
 (aggNV 3 r17.1).bind fun c20 =>
 (cv id_laws_toMailS [(strip (strip (c1.getD 5 .nilp)))] r17.2).bind fun r24 =>
 (vOneV r24.1).bind fun y27 =>
 some ((.agg [y8, y13, (c20.getD 0 .nilp), (c20.getD 1 .nilp), (c20.getD 2 .nilp), y27]), r24.2) := (callV_eq vb _ _ _ rfl).trans (by kernel_rfl)
theorem laws_toMail_eq (a0 : V) (H : VH) : cv id_laws_toMail [a0] H =
 (aggNV 3 a0).bind fun c1 =>
 (vOneV (strip (c1.getD 0 .nilp))).bind fun y8 =>
 (cv id_laws_toStringS [(strip (strip (c1.getD 1 .nilp)))] H).bind fun r12 =>
 (vOneV r12.1).bind fun y15 =>
 (cv id_laws_toStringS [(strip (strip (c1.getD 2 .nilp)))] r12.2).bind fun r19 =>
 (vOneV r19.1).bind fun y22 =>
 some ((.agg [y8, y15, y22]), r19.2) := (callV_eq vb _ _ _ rfl).trans (by kernel_rfl)
noncomputable def laws_toStringS_l3 : List V -> VH -> Option (Option Nat × List V × VH) := roundV (vb.ctx cv lpW') (vb.b.ann 14) (vb.takes 14) ⟨⟨[0, 3, 4], [], []⟩, [(.exit 0, ⟨[3], [], []⟩)]⟩ (loopIn Tryz.f14 3)
theorem laws_toStringS_l3_eq (v0 v1 v2 : V) (H : VH) : laws_toStringS_l3 [v0, v1, v2] H =
 (vLenVV (strip v0)).bind fun x8 =>
 (vBinV (.int .i64) .lss v2 x8).bind fun x9 =>
 ifVV x9 (
 (vIdxV 1 (strip v0) (strip (strip v2))).bind fun x14 =>
 (ldO globB false false 1 x14 H).bind fun r16 =>
 (vIdxV 1 (strip v1) (strip v2)).bind fun x17 =>
 (vOneV r16.1).bind fun y19 =>
 (stO x17 [y19] r16.2).bind fun H20 =>
 (vBinV (.int .i64) .add (strip (strip (strip v2))) (.int .i64 1)).bind fun x22 =>
 some (none, [v0, v1, x22], H20)) (
 some (some 0, [v1], H)) := by kernel_rfl
theorem laws_toStringS_eq (a0 : V) (H : VH) : cv id_laws_toStringS [a0] H =
 (vLenVV (strip a0)).bind fun x2 =>
 (mkLenV 16 x2 x2).bind fun x3 =>
 (lpW' laws_toStringS_l3 [a0, (.obs H.length 0 x3.1 1), (.int .i64 0)] (H ++ [repV x3.2 [(.str [])]])).bind fun r24 =>
 inN r24.1 [
 gotV 1 r24.2.1 fun v25 =>
 some ((v25 0), r24.2.2)] := (callV_eq vb _ _ _ rfl).trans (by kernel_rfl)
noncomputable def laws_toMailS_l3 : List V -> VH -> Option (Option Nat × List V × VH) := roundV (vb.ctx cv lpW') (vb.b.ann 26) (vb.takes 26) ⟨⟨[0, 3, 4], [], []⟩, [(.exit 0, ⟨[3], [], []⟩)]⟩ (loopIn Tryz.f26 3)
theorem laws_toMailS_l3_eq (v0 v1 v2 : V) (H : VH) : laws_toMailS_l3 [v0, v1, v2] H =
 (vLenVV (strip v0)).bind fun x8 =>
 (vBinV (.int .i64) .lss v2 x8).bind fun x9 =>
 ifVV x9 (
 (vIdxV 3 (strip v0) (strip (strip v2))).bind fun x14 =>
 (ldO globB false true 3 x14 H).bind fun r16 =>
 (cv id_laws_toMail [(strip r16.1)] r16.2).bind fun r18 =>
 (vIdxV 3 (strip v1) (strip v2)).bind fun x19 =>
 (aggNV 3 r18.1).bind fun c21 =>
 (stO x19 [(c21.getD 0 .nilp), (c21.getD 1 .nilp), (c21.getD 2 .nilp)] r18.2).bind fun H22 =>
 (vBinV (.int .i64) .add (strip (strip (strip v2))) (.int .i64 1)).bind fun x24 =>
 some (none, [v0, v1, x24], H22)) (
 some (some 0, [v1], H)) := by kernel_rfl
theorem laws_toMailS_eq (a0 : V) (H : VH) : cv id_laws_toMailS [a0] H =
 (vLenVV (strip a0)).bind fun x2 =>
 (mkLenV 64 x2 x2).bind fun x3 =>
 (lpW' laws_toMailS_l3 [a0, (.obs H.length 0 x3.1 3), (.int .i64 0)] (H ++ [repV x3.2 [(.str []), (.sl true []), (.sl true [])]])).bind fun r26 =>
 inN r26.1 [
 gotV 1 r26.2.1 fun v27 =>
 some ((v27 0), r26.2.2)] := (callV_eq vb _ _ _ rfl).trans (by kernel_rfl)
theorem spec_SayAll_eq (a0 a1 : V) (H : VH) : cv id_spec_SayAll [a0, a1] H =
 (aggNV 6 a0).bind fun c1 =>
 (cv id_spec_l10RawSayAll [(.agg [(c1.getD 0 .nilp), (c1.getD 1 .nilp), (c1.getD 2 .nilp), (c1.getD 3 .nilp), (c1.getD 4 .nilp), (c1.getD 5 .nilp)]), (strip (strip a1))] H).bind fun r8 =>
 (vExtV r8.1 0).bind fun x10 =>
 (vExtV r8.1 1).bind fun x11 =>
 (vExtV (stripAt 1 r8.1) 2).bind fun x12 =>
 (aggNV 6 (strip x10)).bind fun c15 =>
 (pc id_spec_l13OwnSession [(frz r8.2 (.agg [(strip (c15.getD 0 .nilp)), (strip (c15.getD 1 .nilp)), (strip (c15.getD 2 .nilp)), (strip (c15.getD 3 .nilp)), (strip (c15.getD 4 .nilp)), (strip (c15.getD 5 .nilp))]))]).bind fun x19 =>
 (appV false 1 8 [] x11).bind fun x22 =>
 (aggNV 6 x19).bind fun c25 =>
 some ((.tup [(.agg [(c25.getD 0 .nilp), (c25.getD 1 .nilp), (c25.getD 2 .nilp), (c25.getD 3 .nilp), (c25.getD 4 .nilp), (c25.getD 5 .nilp)]), x22, (strip x12)]), r8.2) := (callV_eq vb _ _ _ rfl).trans (by kernel_rfl)
noncomputable def spec_l10RawSayAll_l6 : List V -> VH -> Option (Option Nat × List V × VH) := roundV (vb.ctx cv lpW') (vb.b.ann 36) (vb.takes 36) ⟨⟨[1, 7, 9], [(4, (4, 0)), (8, (8, 0))], [(4, 6), (8, 6)]⟩, [(.exit 0, ⟨[7], [(4, (4, 0)), (8, (8, 0))], [(4, 6), (8, 6)]⟩), (.ret, ⟨[5, 6], [(4, (4, 0))], [(4, 6)]⟩)]⟩ (loopIn Tryz.f36 6)
theorem spec_l10RawSayAll_l6_eq (v0 v1 v2 v3 v4 v5 v6 v7 v8 v9 v10 v11 v12 v13 v14 : V) (H : VH) : spec_l10RawSayAll_l6 [v0, v1, v2, v3, v4, v5, v6, v7, v8, v9, v10, v11, v12, v13, v14] H =
 (vLenVV (strip v0)).bind fun x24 =>
 (vBinV (.int .i64) .lss v2 x24).bind fun x25 =>
 ifVV x25 (
 (id (
 (vIdxV 1 (strip v0) (strip v2)).bind fun x29 =>
 (ldO globB false false 1 x29 H).bind fun r31 =>
 (cv id_spec_SayLine [(.agg [v9, v10, v11, v12, v13, v14]), (strip r31.1)] r31.2).bind fun r33 =>
 (vExtV r33.1 0).bind fun x35 =>
 (vExtV (stripAt 0 r33.1) 1).bind fun x36 =>
 (vExtV (stripAt 0 r33.1) 2).bind fun x37 =>
 (aggNV 6 x35).bind fun c40 =>
 (vUnV .not (strip x37)).bind fun x44 =>
 ifVV x44 (
 some (0, [(.sl true []), (.bool false), (.int .i64 0), (.str []), (.str []), (.sl true []), (.sl true []), (.sl true [])], r33.2)) (
 (vBinV (.int .i64) .neq (strip x36) (.int .i64 0)).bind fun x51 =>
 ifVV x51 (
 (vOneV (strip (strip x36))).bind fun y55 =>
 (ownV v1).bind fun s57 =>
 (appV false 1 8 s57 (.sl true [[y55]])).bind fun x56 =>
 some (1, [v0, x56, (strip (strip v2)), v3, v4, v5, v6, v7, v8, (c40.getD 0 .nilp), (c40.getD 1 .nilp), (c40.getD 2 .nilp), (c40.getD 3 .nilp), (c40.getD 4 .nilp), (c40.getD 5 .nilp)], r33.2)) (
 some (1, [v0, v1, (strip (strip v2)), v3, v4, v5, v6, v7, v8, (c40.getD 0 .nilp), (c40.getD 1 .nilp), (c40.getD 2 .nilp), (c40.getD 3 .nilp), (c40.getD 4 .nilp), (c40.getD 5 .nilp)], r33.2))) : Option (Nat × List V × VH))).bind fun r63 =>
 inN r63.1 [
 gotV 8 r63.2.1 fun v64 =>
 some (some 1, [(v64 0), (v64 1), (v64 2), (v64 3), (v64 4), (v64 5), (v64 6), (v64 7)], r63.2.2),
 gotV 15 r63.2.1 fun v65 =>
 (vBinV (.int .i64) .add (v65 2) (.int .i64 1)).bind fun x67 =>
 some (none, [(v65 0), (v65 1), x67, (v65 3), (v65 4), (v65 5), (v65 6), (v65 7), (v65 8), (v65 9), (v65 10), (v65 11), (v65 12), (v65 13), (v65 14)], r63.2.2)]) (
 some (some 0, [v1, v3, v4, v5, v6, v7, v8, v9, v10, v11, v12, v13, v14], H)) := by kernel_rfl
theorem spec_l10RawSayAll_eq (a0 a1 : V) (H : VH) : cv id_spec_l10RawSayAll [a0, a1] H =
 (aggNV 6 a0).bind fun c1 =>
 (qc id_spec_SessionValid [(frz H (.agg [(strip (c1.getD 0 .nilp)), (strip (c1.getD 1 .nilp)), (strip (c1.getD 2 .nilp)), (strip (c1.getD 3 .nilp)), (strip (c1.getD 4 .nilp)), (strip (c1.getD 5 .nilp))]))]).bind fun x8 =>
 (vUnV .not x8).bind fun x9 =>
 ifVV x9 (
 some ((.tup [(.agg [(.int .i64 0), (.str []), (.str []), (.sl true []), (.sl true []), (.sl true [])]), (.sl true []), (.bool false)]), H)) (
 (cv id_spec_l10Copy [(.agg [(c1.getD 0 .nilp), (c1.getD 1 .nilp), (c1.getD 2 .nilp), (c1.getD 3 .nilp), (c1.getD 4 .nilp), (c1.getD 5 .nilp)])] H).bind fun r17 =>
 (aggNV 6 r17.1).bind fun c20 =>
 (lpW' spec_l10RawSayAll_l6 [a1, (.sl true []), (.int .i64 0), (.int .i64 0), (.str []), (.str []), (.sl true []), (.sl true []), (.sl true []), (c20.getD 0 .nilp), (c20.getD 1 .nilp), (c20.getD 2 .nilp), (c20.getD 3 .nilp), (c20.getD 4 .nilp), (c20.getD 5 .nilp)] r17.2).bind fun r69 =>
 inN r69.1 [
 gotV 13 r69.2.1 fun v70 =>
 some ((.tup [(.agg [(v70 7), (v70 8), (v70 9), (v70 10), (v70 11), (v70 12)]), (v70 0), (.bool true)]), r69.2.2),
 gotV 8 r69.2.1 fun v76 =>
 some ((.tup [(.agg [(v76 2), (v76 3), (v76 4), (v76 5), (v76 6), (v76 7)]), (v76 0), (v76 1)]), r69.2.2)]) := (callV_eq vb _ _ _ rfl).trans (by kernel_rfl)
noncomputable def spec_SessionValid_l5 : List V -> VH -> Option (Option Nat × List V × VH) := roundV (vb.ctx cv lpW') (vb.b.ann 38) (vb.takes 38) ⟨⟨[4], [(1, (1, 0)), (3, (3, 0))], [(1, 6), (3, 3)]⟩, [(.exit 0, ⟨[], [(1, (1, 0)), (3, (3, 0))], [(1, 6), (3, 3)]⟩), (.ret, ⟨[2], [], []⟩)]⟩ (loopIn Tryz.f38 5)
theorem spec_SessionValid_l5_eq (v0 v1 v2 v3 v4 v5 v6 v7 v8 v9 : V) (H : VH) : spec_SessionValid_l5 [v0, v1, v2, v3, v4, v5, v6, v7, v8, v9] H =
 (vLenVV (strip v6)).bind fun x74 =>
 (vBinV (.int .i64) .lss v0 x74).bind fun x75 =>
 ifVV x75 (
 (vIdxV 3 (strip v6) (strip v0)).bind fun x79 =>
 (ldO globB false true 3 x79 H).bind fun r81 =>
 (qc id_spec_MailValid [(frz r81.2 r81.1)]).bind fun x82 =>
 (vUnV .not x82).bind fun x83 =>
 ifVV x83 (
 some (some 1, [(.bool false)], r81.2)) (
 (vBinV (.int .i64) .add (strip (strip v0)) (.int .i64 1)).bind fun x86 =>
 some (none, [x86, v1, v2, v3, v4, v5, v6, v7, v8, v9], r81.2))) (
 some (some 0, [v1, v2, v3, v4, v5, v6, v7, v8, v9], H)) := by kernel_rfl
theorem spec_SessionValid_eq (a0 : V) (H : VH) : cv id_spec_SessionValid [a0] H =
 (aggNV 6 a0).bind fun c1 =>
 (id (
 (vBinV (.int .i64) .lss (strip (c1.getD 0 .nilp)) (.int .i64 0)).bind fun x9 =>
 ifGV x9 (
 some (0, [(.bool false)], H)) (
 (vBinV (.int .i64) .gtr (strip (c1.getD 0 .nilp)) (.int .i64 5)).bind fun x21 =>
 ifGV x21 (
 some (0, [(.bool false)], H)) (
 (qc id_spec_l10Draft [(frz H (.agg [(strip (strip (c1.getD 2 .nilp))), (strip (strip (c1.getD 3 .nilp))), (strip (strip (c1.getD 4 .nilp)))]))]).bind fun x31 =>
 (vUnV .not x31).bind fun x32 =>
 ifGV x32 (
 some (0, [(.bool false)], H)) (
 (vBinV .str .neq (strip (c1.getD 1 .nilp)) (.str [])).bind fun x41 =>
 ifGV x41 (
 (qc id_spec_l2Domain [(frz H (strip (c1.getD 1 .nilp)))]).bind fun x45 =>
 (vUnV .not x45).bind fun x46 =>
 ifGV x46 (
 some (0, [(.bool false)], H)) (
 (vLenVV (strip (c1.getD 5 .nilp))).bind fun x54 =>
 (vBinV (.int .i64) .gtr x54 (.int .i64 5)).bind fun x55 =>
 ifVV x55 (
 some (0, [(.bool false)], H)) (
 some (1, [(c1.getD 0 .nilp), (c1.getD 1 .nilp), (c1.getD 2 .nilp), (c1.getD 3 .nilp), (c1.getD 4 .nilp), (c1.getD 5 .nilp), (strip (c1.getD 2 .nilp)), (strip (c1.getD 3 .nilp)), (strip (c1.getD 4 .nilp))], H)))) (
 (vLenVV (strip (c1.getD 5 .nilp))).bind fun x63 =>
 (vBinV (.int .i64) .gtr x63 (.int .i64 5)).bind fun x64 =>
 ifVV x64 (
 some (0, [(.bool false)], H)) (
 some (1, [(c1.getD 0 .nilp), (c1.getD 1 .nilp), (c1.getD 2 .nilp), (c1.getD 3 .nilp), (c1.getD 4 .nilp), (c1.getD 5 .nilp), (strip (c1.getD 2 .nilp)), (strip (c1.getD 3 .nilp)), (strip (c1.getD 4 .nilp))], H)))))) : Option (Nat × List V × VH))).bind fun r67 =>
 inN r67.1 [
 gotV 1 r67.2.1 fun v68 =>
 some ((v68 0), r67.2.2),
 gotV 9 r67.2.1 fun v69 =>
 (lpW' spec_SessionValid_l5 [(.int .i64 0), (v69 0), (v69 1), (v69 2), (v69 3), (v69 4), (v69 5), (v69 6), (v69 7), (v69 8)] r67.2.2).bind fun r88 =>
 inN r88.1 [
 gotV 9 r88.2.1 fun v89 =>
 (id (
 (vBinV (.int .i64) .neq (strip (v89 0)) (.int .i64 5)).bind fun x92 =>
 ifGV x92 (
 (vBinV (.int .i64) .eql (strip (v89 0)) (.int .i64 0)).bind fun x96 =>
 (vBinV .str .eql (strip (v89 1)) (.str [])).bind fun x99 =>
 (vBinV .bool .neq x96 x99).bind fun x100 =>
 ifVV x100 (
 some (0, [(.bool false)], r88.2.2)) (
 some (1, [(v89 0), (v89 1), (v89 2), (v89 3), (v89 4), (v89 5), (v89 6), (v89 7), (v89 8)], r88.2.2))) (
 some (1, [(v89 0), (v89 1), (v89 2), (v89 3), (v89 4), (v89 5), (v89 6), (v89 7), (v89 8)], r88.2.2)) : Option (Nat × List V × VH))).bind fun r104 =>
 inN r104.1 [
 gotV 1 r104.2.1 fun v105 =>
 some ((v105 0), r104.2.2),
 gotV 9 r104.2.1 fun v106 =>
 (id (
 (vBinV (.int .i64) .neq (strip (v106 0)) (.int .i64 4)).bind fun x109 =>
 ifGV x109 (
 (vLenVV (strip (v106 8))).bind fun x113 =>
 (vBinV (.int .i64) .gtr x113 (.int .i64 0)).bind fun x114 =>
 ifVV x114 (
 some (0, [(.bool false)], r104.2.2)) (
 some (1, [(v106 0), (v106 1), (v106 2), (v106 3), (v106 4), (v106 5), (v106 6), (v106 7), (v106 8)], r104.2.2))) (
 some (1, [(v106 0), (v106 1), (v106 2), (v106 3), (v106 4), (v106 5), (v106 6), (v106 7), (v106 8)], r104.2.2)) : Option (Nat × List V × VH))).bind fun r118 =>
 inN r118.1 [
 gotV 1 r118.2.1 fun v119 =>
 some ((v119 0), r118.2.2),
 gotV 9 r118.2.1 fun v120 =>
 (id (
 (id (
 (vBinV (.int .i64) .eql (strip (v120 0)) (.int .i64 3)).bind fun x123 =>
 ifVV x123 (
 some (0, [(strip (v120 0)), x123, (v120 6), (v120 7), (v120 8)], r118.2.2)) (
 (vBinV (.int .i64) .eql (strip (v120 0)) (.int .i64 4)).bind fun x125 =>
 some (0, [(strip (v120 0)), x125, (v120 6), (v120 7), (v120 8)], r118.2.2)) : Option (Nat × List V × VH))).bind fun r127 =>
 inN r127.1 [
 gotV 5 r127.2.1 fun v128 =>
 ifVV (v128 1) (
 (vLenVV (strip (v128 3))).bind fun x131 =>
 (vBinV (.int .i64) .gtr x131 (.int .i64 0)).bind fun x132 =>
 some (0, [x132], r127.2.2)) (
 (vBinV (.int .i64) .eql (v128 0) (.int .i64 2)).bind fun x134 =>
 ifVV x134 (
 (vLenVV (strip (v128 3))).bind fun x138 =>
 (vBinV (.int .i64) .eql x138 (.int .i64 0)).bind fun x139 =>
 some (0, [x139], r127.2.2)) (
 some (1, [(v128 2), (v128 3), (v128 4)], r127.2.2)))] : Option (Nat × List V × VH))).bind fun r141 =>
 inN r141.1 [
 gotV 1 r141.2.1 fun v142 =>
 some ((v142 0), r141.2.2),
 gotV 3 r141.2.1 fun v143 =>
 (vBinV .str .eql (strip (v143 0)) (.str [])).bind fun x146 =>
 ifGV x146 (
 (vLenVV (strip (v143 1))).bind fun x150 =>
 (vBinV (.int .i64) .eql x150 (.int .i64 0)).bind fun x151 =>
 some (x151, r141.2.2)) (
 some ((.bool false), r141.2.2))]]],
 gotV 1 r88.2.1 fun v156 =>
 some ((v156 0), r88.2.2)]] := (callV_eq vb _ _ _ rfl).trans (by kernel_rfl)
noncomputable def spec_l10Draft_l4 : List V -> VH -> Option (Option Nat × List V × VH) := roundV (vb.ctx cv lpW') (vb.b.ann 54) (vb.takes 54) ⟨⟨[3], [(1, (1, 0))], [(1, 3)]⟩, [(.exit 0, ⟨[], [(1, (1, 0))], [(1, 3)]⟩), (.ret, ⟨[2], [], []⟩)]⟩ (loopIn Tryz.f54 4)
noncomputable def spec_l10Draft_l9 : List V -> VH -> Option (Option Nat × List V × VH) := roundV (vb.ctx cv lpW') (vb.b.ann 54) (vb.takes 54) ⟨⟨[4], [(1, (1, 0))], [(1, 3)]⟩, [(.exit 2, ⟨[], [], []⟩), (.ret, ⟨[2], [], []⟩)]⟩ (loopIn Tryz.f54 9)
theorem spec_l10Draft_l4_eq (v0 v1 v2 v3 : V) (H : VH) : spec_l10Draft_l4 [v0, v1, v2, v3] H =
 (vLenVV (strip v2)).bind fun x54 =>
 (vBinV (.int .i64) .lss v0 x54).bind fun x55 =>
 ifVV x55 (
 (vIdxV 1 (strip v2) (strip v0)).bind fun x59 =>
 (ldO globB false false 1 x59 H).bind fun r61 =>
 (qc id_spec_l10Box [(frz r61.2 r61.1)]).bind fun x62 =>
 (vUnV .not x62).bind fun x63 =>
 ifVV x63 (
 some (some 1, [(.bool false)], r61.2)) (
 (vBinV (.int .i64) .add (strip (strip v0)) (.int .i64 1)).bind fun x66 =>
 some (none, [x66, v1, v2, v3], r61.2))) (
 some (some 0, [v1, v2, v3], H)) := by kernel_rfl
theorem spec_l10Draft_l9_eq (v0 v1 v2 v3 : V) (H : VH) : spec_l10Draft_l9 [v0, v1, v2, v3] H =
 (vLenVV (strip v3)).bind fun x74 =>
 (vBinV (.int .i64) .lss v0 x74).bind fun x75 =>
 ifVV x75 (
 (vIdxV 1 (strip v3) (strip v0)).bind fun x79 =>
 (ldO globB false false 1 x79 H).bind fun r81 =>
 (qc id_spec_TextValid [(frz r81.2 r81.1)]).bind fun x82 =>
 (vUnV .not x82).bind fun x83 =>
 ifVV x83 (
 some (some 1, [(.bool false)], r81.2)) (
 (vBinV (.int .i64) .add (strip (strip v0)) (.int .i64 1)).bind fun x86 =>
 some (none, [x86, v1, v2, v3], r81.2))) (
 some (some 0, [], H)) := by kernel_rfl
theorem spec_l10Draft_eq (a0 : V) (H : VH) : cv id_spec_l10Draft [a0] H =
 (aggNV 3 a0).bind fun c1 =>
 (id (
 (vBinV .str .neq (strip (c1.getD 0 .nilp)) (.str [])).bind fun x5 =>
 ifGV x5 (
 (qc id_spec_l10Box [(frz H (strip (c1.getD 0 .nilp)))]).bind fun x9 =>
 (vUnV .not x9).bind fun x10 =>
 ifGV x10 (
 some (0, [(.bool false)], H)) (
 (vLenVV (strip (c1.getD 1 .nilp))).bind fun x19 =>
 (vBinV (.int .i64) .gtr x19 (.int .i64 10)).bind fun x20 =>
 ifGV x20 (
 some (0, [(.bool false)], H)) (
 (vLenVV (strip (c1.getD 2 .nilp))).bind fun x27 =>
 (vBinV (.int .i64) .gtr x27 (.int .i64 31)).bind fun x28 =>
 ifVV x28 (
 some (0, [(.bool false)], H)) (
 some (1, [(c1.getD 0 .nilp), (c1.getD 1 .nilp), (c1.getD 2 .nilp)], H))))) (
 (vLenVV (strip (c1.getD 1 .nilp))).bind fun x35 =>
 (vBinV (.int .i64) .gtr x35 (.int .i64 10)).bind fun x36 =>
 ifGV x36 (
 some (0, [(.bool false)], H)) (
 (vLenVV (strip (c1.getD 2 .nilp))).bind fun x43 =>
 (vBinV (.int .i64) .gtr x43 (.int .i64 31)).bind fun x44 =>
 ifVV x44 (
 some (0, [(.bool false)], H)) (
 some (1, [(c1.getD 0 .nilp), (c1.getD 1 .nilp), (c1.getD 2 .nilp)], H)))) : Option (Nat × List V × VH))).bind fun r47 =>
 inN r47.1 [
 gotV 1 r47.2.1 fun v48 =>
 some ((v48 0), r47.2.2),
 gotV 3 r47.2.1 fun v49 =>
 (lpW' spec_l10Draft_l4 [(.int .i64 0), (v49 0), (v49 1), (v49 2)] r47.2.2).bind fun r68 =>
 inN r68.1 [
 gotV 3 r68.2.1 fun v69 =>
 (lpW' spec_l10Draft_l9 [(.int .i64 0), (v69 0), (v69 1), (v69 2)] r68.2.2).bind fun r88 =>
 inN r88.1 [
 gotV 0 r88.2.1 fun v89 =>
 some ((.bool true), r88.2.2),
 gotV 1 r88.2.1 fun v91 =>
 some ((v91 0), r88.2.2)],
 gotV 1 r68.2.1 fun v92 =>
 some ((v92 0), r68.2.2)]] := (callV_eq vb _ _ _ rfl).trans (by kernel_rfl)
theorem spec_l10Box_eq (a0 : V) (H : VH) : cv id_spec_l10Box [a0] H =
 (pc id_spec_l2Box [(frz H a0)]).bind fun x2 =>
 (vExtV x2 0).bind fun x4 =>
 (vExtV x2 1).bind fun x5 =>
 (aggNV 3 (strip x4)).bind fun c8 =>
 ifGV (strip x5) (
 (vBinV .str .add (strip (c8.getD 1 .nilp)) (.str [64])).bind fun x14 =>
 (vBinV .str .add x14 (strip (c8.getD 2 .nilp))).bind fun x17 =>
 (vBinV .str .eql x17 (strip a0)).bind fun x19 =>
 some (x19, H)) (
 some ((.bool false), H)) := (callV_eq vb _ _ _ rfl).trans (by kernel_rfl)
theorem spec_l2Box_eq (a0 : V) (H : VH) : cv id_spec_l2Box [a0] H =
 (qc id_spec_l2Cut [(frz H a0), (frz H (.int .u8 64))]).bind fun x3 =>
 (vExtV x3 0).bind fun x5 =>
 (vExtV x3 1).bind fun x6 =>
 (vExtV x3 2).bind fun x7 =>
 (qc id_spec_LowerText [(frz H (strip x6))]).bind fun x13 =>
 (vOneV (strip x5)).bind fun y15 =>
 (vOneV x13).bind fun y16 =>
 ifGV (strip x7) (
 (qc id_spec_AddressValid [(frz H (.agg [(.str []), (strip y15), (strip y16)]))]).bind fun x23 =>
 some ((.tup [(.agg [(.str []), (strip y15), (strip y16)]), x23]), H)) (
 some ((.tup [(.agg [(.str []), (strip y15), (strip y16)]), (.bool false)]), H)) := (callV_eq vb _ _ _ rfl).trans (by kernel_rfl)
noncomputable def spec_l2Cut_l2 : List V -> VH -> Option (Option Nat × List V × VH) := roundV (vb.ctx cv lpW') (vb.b.ann 58) (vb.takes 58) ⟨⟨[0, 1, 7], [], []⟩, [(.exit 0, ⟨[0], [], []⟩), (.ret, ⟨[4, 5, 6], [], []⟩)]⟩ (loopIn Tryz.f58 2)
theorem spec_l2Cut_l2_eq (v0 v1 v2 : V) (H : VH) : spec_l2Cut_l2 [v0, v1, v2] H =
 (vLenSV v0).bind fun x6 =>
 (vBinV (.int .i64) .lss v2 x6).bind fun x7 =>
 ifVV x7 (
 (vIndexSV (strip v0) (strip v2)).bind fun x10 =>
 (vBinV (.int .u8) .eql x10 (.int .u8 34)).bind fun x11 =>
 ifVV x11 (
 (qc id_spec_l1Read [(frz H (strip (strip v0))), (frz H (strip (strip v2)))]).bind fun x14 =>
 (vExtV x14 0).bind fun x16 =>
 (vExtV x14 1).bind fun x17 =>
 (vBinV (.int .i64) .lss (strip x17) (.int .i64 0)).bind fun x21 =>
 ifVV x21 (
 some (some 1, [(strip (strip (strip v0))), (.str []), (.bool false)], H)) (
 some (none, [(strip (strip (strip v0))), v1, (strip (strip x17))], H))) (
 (vIndexSV (strip (strip v0)) (strip (strip v2))).bind fun x30 =>
 (vBinV (.int .u8) .eql x30 v1).bind fun x32 =>
 ifVV x32 (
 (vSliceSV (strip (strip (strip v0))) none (some (strip (strip (strip v2))))).bind fun x35 =>
 (vBinV (.int .i64) .add (strip (strip (strip (strip v2)))) (.int .i64 1)).bind fun x38 =>
 (vSliceSV (strip (strip (strip (strip v0)))) (some x38) none).bind fun x39 =>
 some (some 1, [x35, x39, (.bool true)], H)) (
 (vBinV (.int .i64) .add (strip (strip (strip v2))) (.int .i64 1)).bind fun x44 =>
 some (none, [(strip (strip (strip v0))), (strip v1), x44], H)))) (
 some (some 0, [(strip v0)], H)) := by kernel_rfl
theorem spec_l2Cut_eq (a0 a1 : V) (H : VH) : cv id_spec_l2Cut [a0, a1] H =
 (lpW' spec_l2Cut_l2 [a0, a1, (.int .i64 0)] H).bind fun r46 =>
 inN r46.1 [
 gotV 1 r46.2.1 fun v47 =>
 some ((.tup [(v47 0), (.str []), (.bool false)]), r46.2.2),
 gotV 3 r46.2.1 fun v52 =>
 some ((.tup [(v52 0), (v52 1), (v52 2)]), r46.2.2)] := (callV_eq vb _ _ _ rfl).trans (by kernel_rfl)
noncomputable def spec_l1Read_l3 : List V -> VH -> Option (Option Nat × List V × VH) := roundV (vb.ctx cv lpW') (vb.b.ann 82) (vb.takes 82) ⟨⟨[0, 6, 7], [], []⟩, [(.exit 0, ⟨[], [], []⟩), (.ret, ⟨[4, 5], [], []⟩)]⟩ (loopIn Tryz.f82 3)
theorem spec_l1Read_l3_eq (v0 v1 v2 : V) (H : VH) : spec_l1Read_l3 [v0, v1, v2] H =
 (vLenSV v0).bind fun x8 =>
 (vBinV (.int .i64) .lss v2 x8).bind fun x9 =>
 ifVV x9 (
 (id (
 (vIndexSV (strip v0) (strip v2)).bind fun x12 =>
 (vBinV (.int .u8) .eql x12 (.int .u8 34)).bind fun x13 =>
 ifVV x13 (
 (vBinV (.int .i64) .add (strip (strip v2)) (.int .i64 1)).bind fun x16 =>
 some (0, [v1, x16], H)) (
 (id (
 (vIndexSV (strip (strip v0)) (strip (strip v2))).bind fun x21 =>
 (vBinV (.int .u8) .eql x21 (.int .u8 92)).bind fun x22 =>
 ifVV x22 (
 (vBinV (.int .i64) .add (strip (strip (strip v2))) (.int .i64 1)).bind fun x24 =>
 (vLenSV (strip (strip (strip v0)))).bind fun x28 =>
 (vBinV (.int .i64) .eql x24 x28).bind fun x29 =>
 ifVV x29 (
 some (0, [(.str []), (.int .i64 (-1))], H)) (
 some (1, [(strip (strip (strip (strip v0)))), v1, (strip x24)], H))) (
 some (1, [(strip (strip (strip v0))), v1, (strip (strip (strip v2)))], H)) : Option (Nat × List V × VH))).bind fun r32 =>
 inN r32.1 [
 gotV 2 r32.2.1 fun v33 =>
 some (0, [(v33 0), (v33 1)], r32.2.2),
 gotV 3 r32.2.1 fun v34 =>
 (vBinV (.int .i64) .add (strip (v34 2)) (.int .i64 1)).bind fun x39 =>
 (vSliceSV (v34 0) (some (v34 2)) (some x39)).bind fun x40 =>
 (vBinV .str .add (v34 1) x40).bind fun x41 =>
 some (1, [(strip (v34 0)), x41, (strip (strip (v34 2)))], r32.2.2)]) : Option (Nat × List V × VH))).bind fun r43 =>
 inN r43.1 [
 gotV 2 r43.2.1 fun v44 =>
 some (some 1, [(v44 0), (v44 1)], r43.2.2),
 gotV 3 r43.2.1 fun v45 =>
 (vBinV (.int .i64) .add (v45 2) (.int .i64 1)).bind fun x47 =>
 some (none, [(v45 0), (v45 1), x47], r43.2.2)]) (
 some (some 0, [], H)) := by kernel_rfl
theorem spec_l1Read_eq (a0 a1 : V) (H : VH) : cv id_spec_l1Read [a0, a1] H =
 (vBinV (.int .i64) .add a1 (.int .i64 1)).bind fun x4 =>
 (lpW' spec_l1Read_l3 [a0, (.str []), x4] H).bind fun r49 =>
 inN r49.1 [
 gotV 0 r49.2.1 fun v50 =>
 some ((.tup [(.str []), (.int .i64 (-1))]), r49.2.2),
 gotV 2 r49.2.1 fun v53 =>
 some ((.tup [(v53 0), (v53 1)]), r49.2.2)] := (callV_eq vb _ _ _ rfl).trans (by kernel_rfl)
noncomputable def spec_LowerText_l3 : List V -> VH -> Option (Option Nat × List V × VH) := roundV (vb.ctx cv lpW') (vb.b.ann 59) (vb.takes 59) ⟨⟨[3, 4], [], []⟩, [(.exit 0, ⟨[3], [], []⟩)]⟩ (loopIn Tryz.f59 3)
theorem spec_LowerText_l3_eq (v0 v1 : V) (H : VH) : spec_LowerText_l3 [v0, v1] H =
 (vLenVV (strip v0)).bind fun x7 =>
 (vBinV (.int .i64) .lss v1 x7).bind fun x8 =>
 ifVV x8 (
 (id (
 (vIdxV 1 (strip v0) (strip v1)).bind fun x11 =>
 (ldO globB false false 1 x11 H).bind fun r13 =>
 (vBinV (.int .u8) .geq r13.1 (.int .u8 65)).bind fun x14 =>
 ifGV x14 (
 (vIdxV 1 (strip v0) (strip (strip v1))).bind fun x18 =>
 (ldO globB false false 1 x18 r13.2).bind fun r20 =>
 (vBinV (.int .u8) .leq r20.1 (.int .u8 90)).bind fun x21 =>
 ifVV x21 (
 (vIdxV 1 (strip v0) (strip (strip (strip (strip v1))))).bind fun x27 =>
 (ldO globB false false 1 x27 r20.2).bind fun r29 =>
 (vBinV (.int .u8) .add r29.1 (.int .u8 32)).bind fun x30 =>
 (vIdxV 1 (strip v0) (strip (strip (strip v1)))).bind fun x31 =>
 (vOneV x30).bind fun y33 =>
 (stO x31 [y33] r29.2).bind fun H34 =>
 some (0, [v0, (strip (strip (strip (strip (strip v1)))))], H34)) (
 some (0, [v0, (strip (strip (strip v1)))], r20.2))) (
 some (0, [v0, (strip (strip v1))], r13.2)) : Option (Nat × List V × VH))).bind fun r36 =>
 inN r36.1 [
 gotV 2 r36.2.1 fun v37 =>
 (vBinV (.int .i64) .add (v37 1) (.int .i64 1)).bind fun x39 =>
 some (none, [(v37 0), x39], r36.2.2)]) (
 some (some 0, [v0], H)) := by kernel_rfl
theorem spec_LowerText_eq (a0 : V) (H : VH) : cv id_spec_LowerText [a0] H =
 (s2bV a0).bind fun x2 =>
 (lpW' spec_LowerText_l3 [(.obs H.length 0 x2.length 1), (.int .i64 0)] (H ++ [x2])).bind fun r41 =>
 inN r41.1 [
 gotV 1 r41.2.1 fun v42 =>
 (b2sV (strip (v42 0)) r41.2.2).bind fun x44 =>
 some (x44, r41.2.2)] := (callV_eq vb _ _ _ rfl).trans (by kernel_rfl)
theorem spec_AddressValid_eq (a0 : V) (H : VH) : cv id_spec_AddressValid [a0] H =
 (aggNV 3 a0).bind fun c1 =>
 (qc id_spec_l2Name [(frz H (strip (c1.getD 0 .nilp)))]).bind fun x5 =>
 ifGV x5 (
 (vLenSV (strip (c1.getD 1 .nilp))).bind fun x9 =>
 (vBinV (.int .i64) .leq x9 (.int .i64 30)).bind fun x10 =>
 ifGV x10 (
 (qc id_spec_l2Local [(frz H (strip (c1.getD 1 .nilp)))]).bind fun x15 =>
 ifGV x15 (
 (vLenSV (strip (c1.getD 2 .nilp))).bind fun x20 =>
 (vBinV (.int .i64) .leq x20 (.int .i64 40)).bind fun x21 =>
 ifGV x21 (
 (qc id_spec_l2Domain [(frz H (strip (c1.getD 2 .nilp)))]).bind fun x26 =>
 some (x26, H)) (
 some ((.bool false), H))) (
 some ((.bool false), H))) (
 some ((.bool false), H))) (
 some ((.bool false), H)) := (callV_eq vb _ _ _ rfl).trans (by kernel_rfl)
theorem spec_l2Name_eq (a0 : V) (H : VH) : cv id_spec_l2Name [a0] H =
 (qc id_spec_TextValid [(frz H a0)]).bind fun x2 =>
 ifGV x2 (
 (vLenSV (strip a0)).bind fun x5 =>
 (vBinV (.int .i64) .leq x5 (.int .i64 40)).bind fun x6 =>
 some (x6, H)) (
 some ((.bool false), H)) := (callV_eq vb _ _ _ rfl).trans (by kernel_rfl)
noncomputable def spec_TextValid_l2 : List V -> VH -> Option (Option Nat × List V × VH) := roundV (vb.ctx cv lpW') (vb.b.ann 39) (vb.takes 39) ⟨⟨[0, 3], [], []⟩, [(.exit 0, ⟨[0], [], []⟩), (.ret, ⟨[2], [], []⟩)]⟩ (loopIn Tryz.f39 2)
theorem spec_TextValid_l2_eq (v0 v1 : V) (H : VH) : spec_TextValid_l2 [v0, v1] H =
 (id (
 (vLenSV v0).bind fun x4 =>
 (vBinV (.int .i64) .lss v1 x4).bind fun x5 =>
 ifGV x5 (
 (vBinV (.int .i64) .leq (strip v1) (.int .i64 200)).bind fun x8 =>
 ifVV x8 (
 some (0, [(strip v0), (strip (strip v1))], H)) (
 some (1, [(strip v0)], H))) (
 some (1, [(strip v0)], H)) : Option (Nat × List V × VH))).bind fun r11 =>
 inN r11.1 [
 gotV 2 r11.2.1 fun v12 =>
 (id (
 (vIndexSV (v12 0) (v12 1)).bind fun x15 =>
 (vBinV (.int .u8) .lss x15 (.int .u8 32)).bind fun x16 =>
 ifGV x16 (
 some (0, [(.bool false)], r11.2.2)) (
 (vIndexSV (strip (v12 0)) (strip (v12 1))).bind fun x22 =>
 (vBinV (.int .u8) .gtr x22 (.int .u8 126)).bind fun x23 =>
 ifVV x23 (
 some (0, [(.bool false)], r11.2.2)) (
 some (1, [(strip (strip (v12 0))), (strip (strip (v12 1)))], r11.2.2))) : Option (Nat × List V × VH))).bind fun r26 =>
 inN r26.1 [
 gotV 1 r26.2.1 fun v27 =>
 some (some 1, [(v27 0)], r26.2.2),
 gotV 2 r26.2.1 fun v28 =>
 (vBinV (.int .i64) .add (v28 1) (.int .i64 1)).bind fun x30 =>
 some (none, [(v28 0), x30], r26.2.2)],
 gotV 1 r11.2.1 fun v32 =>
 some (some 0, [(v32 0)], r11.2.2)] := by kernel_rfl
theorem spec_TextValid_eq (a0 : V) (H : VH) : cv id_spec_TextValid [a0] H =
 (lpW' spec_TextValid_l2 [a0, (.int .i64 0)] H).bind fun r33 =>
 inN r33.1 [
 gotV 1 r33.2.1 fun v34 =>
 (vLenSV (v34 0)).bind fun x36 =>
 (vBinV (.int .i64) .leq x36 (.int .i64 200)).bind fun x37 =>
 some (x37, r33.2.2),
 gotV 1 r33.2.1 fun v39 =>
 some ((v39 0), r33.2.2)] := (callV_eq vb _ _ _ rfl).trans (by kernel_rfl)
noncomputable def spec_l2Local_l3 : List V -> VH -> Option (Option Nat × List V × VH) := roundV (vb.ctx cv lpW') (vb.b.ann 117) (vb.takes 117) ⟨⟨[0, 3, 4], [], []⟩, [(.exit 0, ⟨[0], [], []⟩), (.ret, ⟨[2], [], []⟩)]⟩ (loopIn Tryz.f117 3)
theorem spec_l2Local_l3_eq (v0 v1 v2 : V) (H : VH) : spec_l2Local_l3 [v0, v1, v2] H =
 (vLenVV (strip v1)).bind fun x7 =>
 (vBinV (.int .i64) .lss v2 x7).bind fun x8 =>
 ifVV x8 (
 (vIdxV 1 (strip v1) (strip v2)).bind fun x11 =>
 (ldO globB false false 1 x11 H).bind fun r13 =>
 (qc id_spec_AtomValid [(frz r13.2 r13.1)]).bind fun x14 =>
 (vUnV .not x14).bind fun x15 =>
 ifVV x15 (
 some (some 1, [(.bool false)], r13.2)) (
 (vBinV (.int .i64) .add (strip (strip v2)) (.int .i64 1)).bind fun x18 =>
 some (none, [v0, v1, x18], r13.2))) (
 some (some 0, [v0], H)) := by kernel_rfl
theorem spec_l2Local_eq (a0 : V) (H : VH) : cv id_spec_l2Local [a0] H =
 (pc id_spec_l2Parts [(frz H a0), (frz H (.int .u8 46))]).bind fun x2 =>
 (lpW' spec_l2Local_l3 [(strip a0), (strip x2), (.int .i64 0)] H).bind fun r20 =>
 inN r20.1 [
 gotV 1 r20.2.1 fun v21 =>
 (vLenSV (v21 0)).bind fun x23 =>
 (vBinV (.int .i64) .leq x23 (.int .i64 30)).bind fun x24 =>
 some (x24, r20.2.2),
 gotV 1 r20.2.1 fun v26 =>
 some ((v26 0), r20.2.2)] := (callV_eq vb _ _ _ rfl).trans (by kernel_rfl)
noncomputable def spec_l2Parts_l4 : List V -> VH -> Option (Option Nat × List V × VH) := roundV (vb.ctx cv lpW') (vb.b.ann 80) (vb.takes 80) ⟨⟨[0, 1, 5, 6, 7], [], []⟩, [(.exit 0, ⟨[0, 5, 6], [], []⟩)]⟩ (loopIn Tryz.f80 4)
theorem spec_l2Parts_l4_eq (v0 v1 v2 v3 v4 : V) (H : VH) : spec_l2Parts_l4 [v0, v1, v2, v3, v4] H =
 (vLenSV v0).bind fun x7 =>
 (vBinV (.int .i64) .lss v4 x7).bind fun x8 =>
 ifVV x8 (
 (id (
 (vIndexSV (strip v0) (strip v4)).bind fun x11 =>
 (vBinV (.int .u8) .eql x11 v1).bind fun x13 =>
 ifVV x13 (
 (vSliceSV (strip (strip v0)) (some v3) (some (strip (strip v4)))).bind fun x18 =>
 (vOneV x18).bind fun y20 =>
 (ownV v2).bind fun s22 =>
 (appV false 1 16 s22 (.sl true [[y20]])).bind fun x21 =>
 (vBinV (.int .i64) .add (strip (strip (strip v4))) (.int .i64 1)).bind fun x25 =>
 some (0, [(strip (strip (strip v0))), (strip v1), x21, x25, (strip (strip (strip (strip v4))))], H)) (
 some (0, [(strip (strip v0)), (strip v1), v2, v3, (strip (strip v4))], H)) : Option (Nat × List V × VH))).bind fun r27 =>
 inN r27.1 [
 gotV 5 r27.2.1 fun v28 =>
 (vBinV (.int .i64) .add (v28 4) (.int .i64 1)).bind fun x30 =>
 some (none, [(v28 0), (v28 1), (v28 2), (v28 3), x30], r27.2.2)]) (
 some (some 0, [(strip v0), v2, v3], H)) := by kernel_rfl
theorem spec_l2Parts_eq (a0 a1 : V) (H : VH) : cv id_spec_l2Parts [a0, a1] H =
 (lpW' spec_l2Parts_l4 [a0, a1, (.sl true []), (.int .i64 0), (.int .i64 0)] H).bind fun r32 =>
 inN r32.1 [
 gotV 3 r32.2.1 fun v33 =>
 (vSliceSV (v33 0) (some (v33 2)) none).bind fun x37 =>
 (vOneV x37).bind fun y39 =>
 (ownV (v33 1)).bind fun s41 =>
 (appV false 1 16 s41 (.sl true [[y39]])).bind fun x40 =>
 some (x40, r32.2.2)] := (callV_eq vb _ _ _ rfl).trans (by kernel_rfl)
noncomputable def spec_AtomValid_l2 : List V -> VH -> Option (Option Nat × List V × VH) := roundV (vb.ctx cv lpW') (vb.b.ann 124) (vb.takes 124) ⟨⟨[0, 3], [], []⟩, [(.exit 0, ⟨[0], [], []⟩), (.ret, ⟨[2], [], []⟩)]⟩ (loopIn Tryz.f124 2)
theorem spec_AtomValid_l2_eq (v0 v1 : V) (H : VH) : spec_AtomValid_l2 [v0, v1] H =
 (id (
 (vLenSV v0).bind fun x4 =>
 (vBinV (.int .i64) .lss v1 x4).bind fun x5 =>
 ifGV x5 (
 (vBinV (.int .i64) .leq (strip v1) (.int .i64 40)).bind fun x8 =>
 ifVV x8 (
 some (0, [(strip v0), (strip (strip v1))], H)) (
 some (1, [(strip v0)], H))) (
 some (1, [(strip v0)], H)) : Option (Nat × List V × VH))).bind fun r11 =>
 inN r11.1 [
 gotV 2 r11.2.1 fun v12 =>
 (vIndexSV (v12 0) (v12 1)).bind fun x15 =>
 (qc id_spec_l1Atom [(frz r11.2.2 x15)]).bind fun x16 =>
 (vUnV .not x16).bind fun x17 =>
 ifVV x17 (
 some (some 1, [(.bool false)], r11.2.2)) (
 (vBinV (.int .i64) .add (strip (v12 1)) (.int .i64 1)).bind fun x20 =>
 some (none, [(strip (v12 0)), x20], r11.2.2)),
 gotV 1 r11.2.1 fun v22 =>
 some (some 0, [(v22 0)], r11.2.2)] := by kernel_rfl
theorem spec_AtomValid_eq (a0 : V) (H : VH) : cv id_spec_AtomValid [a0] H =
 (lpW' spec_AtomValid_l2 [a0, (.int .i64 0)] H).bind fun r23 =>
 inN r23.1 [
 gotV 1 r23.2.1 fun v24 =>
 (vLenSV (v24 0)).bind fun x26 =>
 (vBinV (.int .i64) .geq x26 (.int .i64 1)).bind fun x27 =>
 ifGV x27 (
 (vLenSV (strip (v24 0))).bind fun x30 =>
 (vBinV (.int .i64) .leq x30 (.int .i64 40)).bind fun x31 =>
 some (x31, r23.2.2)) (
 some ((.bool false), r23.2.2)),
 gotV 1 r23.2.1 fun v36 =>
 some ((v36 0), r23.2.2)] := (callV_eq vb _ _ _ rfl).trans (by kernel_rfl)
noncomputable def spec_l1Atom_l2 : List V -> VH -> Option (Option Nat × List V × VH) := roundV (vb.ctx cv lpW') (vb.b.ann 127) (vb.takes 127) ⟨⟨[0, 3], [], []⟩, [(.exit 0, ⟨[0], [], []⟩), (.ret, ⟨[2], [], []⟩)]⟩ (loopIn Tryz.f127 2)
theorem spec_l1Atom_l2_eq (v0 v1 : V) (H : VH) : spec_l1Atom_l2 [v0, v1] H =
 (vBinV (.int .i64) .lss v1 (.int .i64 19)).bind fun x3 =>
 ifVV x3 (
 (vIndexSV (.str [33, 35, 36, 37, 38, 39, 42, 43, 45, 47, 61, 63, 94, 95, 96, 123, 124, 125, 126]) (strip v1)).bind fun x6 =>
 (vBinV (.int .u8) .eql v0 x6).bind fun x7 =>
 ifVV x7 (
 some (some 1, [(.bool true)], H)) (
 (vBinV (.int .i64) .add (strip (strip v1)) (.int .i64 1)).bind fun x10 =>
 some (none, [(strip v0), x10], H))) (
 some (some 0, [v0], H)) := by kernel_rfl
theorem spec_l1Atom_eq (a0 : V) (H : VH) : cv id_spec_l1Atom [a0] H =
 (lpW' spec_l1Atom_l2 [a0, (.int .i64 0)] H).bind fun r12 =>
 inN r12.1 [
 gotV 1 r12.2.1 fun v13 =>
 (qc id_spec_l1Letter [(frz r12.2.2 (v13 0))]).bind fun x15 =>
 some (x15, r12.2.2),
 gotV 1 r12.2.1 fun v17 =>
 some ((v17 0), r12.2.2)] := (callV_eq vb _ _ _ rfl).trans (by kernel_rfl)
theorem spec_l1Letter_eq (a0 : V) (H : VH) : cv id_spec_l1Letter [a0] H =
 (vBinV (.int .u8) .geq a0 (.int .u8 97)).bind fun x2 =>
 ifGV x2 (
 (vBinV (.int .u8) .leq (strip a0) (.int .u8 122)).bind fun x5 =>
 ifGV x5 (
 some ((.bool true), H)) (
 (vBinV (.int .u8) .geq (strip (strip a0)) (.int .u8 65)).bind fun x13 =>
 ifGV x13 (
 (vBinV (.int .u8) .leq (strip (strip (strip a0))) (.int .u8 90)).bind fun x16 =>
 ifGV x16 (
 some ((.bool true), H)) (
 (vBinV (.int .u8) .geq (strip (strip (strip (strip a0)))) (.int .u8 48)).bind fun x23 =>
 ifGV x23 (
 (vBinV (.int .u8) .leq (strip (strip (strip (strip (strip a0))))) (.int .u8 57)).bind fun x26 =>
 some (x26, H)) (
 some ((.bool false), H)))) (
 (vBinV (.int .u8) .geq (strip (strip (strip a0))) (.int .u8 48)).bind fun x37 =>
 ifGV x37 (
 (vBinV (.int .u8) .leq (strip (strip (strip (strip a0)))) (.int .u8 57)).bind fun x40 =>
 some (x40, H)) (
 some ((.bool false), H))))) (
 (vBinV (.int .u8) .geq (strip a0) (.int .u8 65)).bind fun x50 =>
 ifGV x50 (
 (vBinV (.int .u8) .leq (strip (strip a0)) (.int .u8 90)).bind fun x53 =>
 ifGV x53 (
 some ((.bool true), H)) (
 (vBinV (.int .u8) .geq (strip (strip (strip a0))) (.int .u8 48)).bind fun x60 =>
 ifGV x60 (
 (vBinV (.int .u8) .leq (strip (strip (strip (strip a0)))) (.int .u8 57)).bind fun x63 =>
 some (x63, H)) (
 some ((.bool false), H)))) (
 (vBinV (.int .u8) .geq (strip (strip a0)) (.int .u8 48)).bind fun x74 =>
 ifGV x74 (
 (vBinV (.int .u8) .leq (strip (strip (strip a0))) (.int .u8 57)).bind fun x77 =>
 some (x77, H)) (
 some ((.bool false), H)))) := (callV_eq vb _ _ _ rfl).trans (by kernel_rfl)
noncomputable def spec_l2Domain_l9 : List V -> VH -> Option (Option Nat × List V × VH) := roundV (vb.ctx cv lpW') (vb.b.ann 55) (vb.takes 55) ⟨⟨[0, 3, 4, 5, 6], [], []⟩, [(.exit 2, ⟨[0, 3, 4], [], []⟩), (.ret, ⟨[2], [], []⟩)]⟩ (loopIn Tryz.f55 9)
noncomputable def spec_l2Domain_l3 : List V -> VH -> Option (Option Nat × List V × VH) := roundV (vb.ctx cv lpW') (vb.b.ann 55) (vb.takes 55) ⟨⟨[0, 3, 4], [], []⟩, [(.exit 0, ⟨[0], [], []⟩), (.ret, ⟨[2], [], []⟩)]⟩ (loopIn Tryz.f55 3)
theorem spec_l2Domain_l9_eq (v0 v1 v2 v3 v4 : V) (H : VH) : spec_l2Domain_l9 [v0, v1, v2, v3, v4] H =
 (vLenSV v3).bind fun x43 =>
 (vBinV (.int .i64) .lss v4 x43).bind fun x44 =>
 ifVV x44 (
 (id (
 (vIndexSV (strip v3) (strip v4)).bind fun x47 =>
 (qc id_spec_l1Letter [(frz H x47)]).bind fun x48 =>
 (vUnV .not x48).bind fun x49 =>
 ifGV x49 (
 (vIndexSV (strip (strip v3)) (strip (strip v4))).bind fun x53 =>
 (vBinV (.int .u8) .neq x53 (.int .u8 45)).bind fun x54 =>
 ifGV x54 (
 some (0, [(.bool false)], H)) (
 (vIndexSV (strip (strip (strip v3))) (strip (strip (strip v4)))).bind fun x61 =>
 (vBinV (.int .u8) .geq x61 (.int .u8 65)).bind fun x62 =>
 ifGV x62 (
 (vIndexSV (strip (strip (strip (strip v3)))) (strip (strip (strip (strip v4))))).bind fun x66 =>
 (vBinV (.int .u8) .leq x66 (.int .u8 90)).bind fun x67 =>
 ifVV x67 (
 some (0, [(.bool false)], H)) (
 some (1, [v0, v1, v2, (strip (strip (strip (strip (strip v3))))), (strip (strip (strip (strip (strip v4)))))], H))) (
 some (1, [v0, v1, v2, (strip (strip (strip (strip v3)))), (strip (strip (strip (strip v4))))], H)))) (
 (vIndexSV (strip (strip v3)) (strip (strip v4))).bind fun x77 =>
 (vBinV (.int .u8) .geq x77 (.int .u8 65)).bind fun x78 =>
 ifGV x78 (
 (vIndexSV (strip (strip (strip v3))) (strip (strip (strip v4)))).bind fun x82 =>
 (vBinV (.int .u8) .leq x82 (.int .u8 90)).bind fun x83 =>
 ifVV x83 (
 some (0, [(.bool false)], H)) (
 some (1, [v0, v1, v2, (strip (strip (strip (strip v3)))), (strip (strip (strip (strip v4))))], H))) (
 some (1, [v0, v1, v2, (strip (strip (strip v3))), (strip (strip (strip v4)))], H))) : Option (Nat × List V × VH))).bind fun r89 =>
 inN r89.1 [
 gotV 1 r89.2.1 fun v90 =>
 some (some 1, [(v90 0)], r89.2.2),
 gotV 5 r89.2.1 fun v91 =>
 (vBinV (.int .i64) .add (v91 4) (.int .i64 1)).bind fun x93 =>
 some (none, [(v91 0), (v91 1), (v91 2), (v91 3), x93], r89.2.2)]) (
 some (some 0, [v0, v1, v2], H)) := by kernel_rfl
theorem spec_l2Domain_l3_eq (v0 v1 v2 : V) (H : VH) : spec_l2Domain_l3 [v0, v1, v2] H =
 (vLenVV (strip v1)).bind fun x7 =>
 (vBinV (.int .i64) .lss v2 x7).bind fun x8 =>
 ifVV x8 (
 (id (
 (vIdxV 1 (strip v1) (strip v2)).bind fun x11 =>
 (ldO globB false false 1 x11 H).bind fun r13 =>
 (id (
 (vBinV .str .eql r13.1 (.str [])).bind fun x16 =>
 ifGV x16 (
 some (0, [(.bool false)], r13.2)) (
 (vIndexSV (strip r13.1) (.int .i64 0)).bind fun x23 =>
 (vBinV (.int .u8) .eql x23 (.int .u8 45)).bind fun x24 =>
 ifGV x24 (
 some (0, [(.bool false)], r13.2)) (
 (vLenSV (strip (strip (strip r13.1)))).bind fun x31 =>
 (vBinV (.int .i64) .sub x31 (.int .i64 1)).bind fun x32 =>
 (vIndexSV (strip (strip r13.1)) x32).bind fun x33 =>
 (vBinV (.int .u8) .eql x33 (.int .u8 45)).bind fun x34 =>
 ifVV x34 (
 some (0, [(.bool false)], r13.2)) (
 some (1, [v0, v1, (strip (strip v2)), (strip (strip (strip (strip r13.1))))], r13.2)))) : Option (Nat × List V × VH))).bind fun r37 =>
 inN r37.1 [
 gotV 1 r37.2.1 fun v38 =>
 some (0, [(v38 0)], r37.2.2),
 gotV 4 r37.2.1 fun v39 =>
 (lpW' spec_l2Domain_l9 [(v39 0), (v39 1), (v39 2), (v39 3), (.int .i64 0)] r37.2.2).bind fun r95 =>
 inN r95.1 [
 gotV 3 r95.2.1 fun v96 =>
 some (1, [(v96 0), (v96 1), (v96 2)], r95.2.2),
 gotV 1 r95.2.1 fun v97 =>
 some (0, [(v97 0)], r95.2.2)]] : Option (Nat × List V × VH))).bind fun r98 =>
 inN r98.1 [
 gotV 1 r98.2.1 fun v99 =>
 some (some 1, [(v99 0)], r98.2.2),
 gotV 3 r98.2.1 fun v100 =>
 (vBinV (.int .i64) .add (v100 2) (.int .i64 1)).bind fun x102 =>
 some (none, [(v100 0), (v100 1), x102], r98.2.2)]) (
 some (some 0, [v0], H)) := by kernel_rfl
theorem spec_l2Domain_eq (a0 : V) (H : VH) : cv id_spec_l2Domain [a0] H =
 (pc id_spec_l2Parts [(frz H a0), (frz H (.int .u8 46))]).bind fun x2 =>
 (lpW' spec_l2Domain_l3 [(strip a0), (strip x2), (.int .i64 0)] H).bind fun r104 =>
 inN r104.1 [
 gotV 1 r104.2.1 fun v105 =>
 (vLenSV (v105 0)).bind fun x107 =>
 (vBinV (.int .i64) .leq x107 (.int .i64 40)).bind fun x108 =>
 some (x108, r104.2.2),
 gotV 1 r104.2.1 fun v110 =>
 some ((v110 0), r104.2.2)] := (callV_eq vb _ _ _ rfl).trans (by kernel_rfl)
theorem spec_MailValid_eq (a0 : V) (H : VH) : cv id_spec_MailValid [a0] H =
 (aggNV 3 a0).bind fun c1 =>
 (qc id_spec_l10Draft [(frz H (.agg [(strip (c1.getD 0 .nilp)), (strip (c1.getD 1 .nilp)), (strip (c1.getD 2 .nilp))]))]).bind fun x4 =>
 ifGV x4 (
 (vLenVV (strip (c1.getD 1 .nilp))).bind fun x8 =>
 (vBinV (.int .i64) .gtr x8 (.int .i64 0)).bind fun x9 =>
 ifGV x9 (
 (vLenVV (strip (c1.getD 2 .nilp))).bind fun x14 =>
 (vBinV (.int .i64) .leq x14 (.int .i64 30)).bind fun x15 =>
 some (x15, H)) (
 some ((.bool false), H))) (
 some ((.bool false), H)) := (callV_eq vb _ _ _ rfl).trans (by kernel_rfl)
noncomputable def spec_l10Copy_l3 : List V -> VH -> Option (Option Nat × List V × VH) := roundV (vb.ctx cv lpW') (vb.b.ann 40) (vb.takes 40) ⟨⟨[3, 4], [(1, (1, 0)), (2, (2, 0))], [(1, 6), (2, 6)]⟩, [(.exit 0, ⟨[3], [(2, (2, 0))], [(2, 6)]⟩)]⟩ (loopIn Tryz.f40 3)
theorem spec_l10Copy_l3_eq (v0 v1 v2 v3 v4 v5 v6 v7 v8 v9 v10 v11 v12 v13 : V) (H : VH) : spec_l10Copy_l3 [v0, v1, v2, v3, v4, v5, v6, v7, v8, v9, v10, v11, v12, v13] H =
 (vLenVV (strip v7)).bind fun x21 =>
 (vBinV (.int .i64) .lss v1 x21).bind fun x22 =>
 ifVV x22 (
 (vOffV v0 5).bind fun x23 =>
 (ldO globB true false 1 x23 H).bind fun r25 =>
 (vIdxV 3 (strip v7) (strip v1)).bind fun x29 =>
 (ldO globB false true 3 x29 r25.2).bind fun r31 =>
 (pc id_spec_l10Mail [(frz r31.2 r31.1)]).bind fun x32 =>
 (aggNV 3 x32).bind fun c34 =>
 (ownV r25.1).bind fun s36 =>
 (appV false 3 64 s36 (.sl true [[(c34.getD 0 .nilp), (c34.getD 1 .nilp), (c34.getD 2 .nilp)]])).bind fun x35 =>
 (vOffV v0 5).bind fun x37 =>
 (vOneV x35).bind fun y39 =>
 (stO x37 [y39] r31.2).bind fun H40 =>
 (vBinV (.int .i64) .add (strip (strip v1)) (.int .i64 1)).bind fun x42 =>
 some (none, [v0, x42, v2, v3, v4, v5, v6, v7, v8, v9, v10, v11, v12, v13], H40)) (
 some (some 0, [v0, v8, v9, v10, v11, v12, v13], H)) := by kernel_rfl
theorem spec_l10Copy_eq (a0 : V) (H : VH) : cv id_spec_l10Copy [a0] H =
 (aggNV 6 a0).bind fun c1 =>
 (pc id_spec_l10Mail [(frz H (.agg [(strip (c1.getD 2 .nilp)), (strip (c1.getD 3 .nilp)), (strip (c1.getD 4 .nilp))]))]).bind fun x9 =>
 (vOneV (strip (c1.getD 0 .nilp))).bind fun y11 =>
 (vOneV (strip (c1.getD 1 .nilp))).bind fun y12 =>
 (aggNV 3 x9).bind fun c13 =>
 (stO (.ptr H.length 0) [y11, y12, (c13.getD 0 .nilp), (c13.getD 1 .nilp), (c13.getD 2 .nilp), (.sl true [])] (H ++ [[(.int .i64 0), (.str []), (.str []), (.sl true []), (.sl true []), (.sl true [])]])).bind fun H16 =>
 (lpW' spec_l10Copy_l3 [(.ptr H.length 0), (.int .i64 0), (c1.getD 0 .nilp), (c1.getD 1 .nilp), (c1.getD 2 .nilp), (c1.getD 3 .nilp), (c1.getD 4 .nilp), (c1.getD 5 .nilp), (.int .i64 0), (.str []), (.str []), (.sl true []), (.sl true []), (.sl true [])] H16).bind fun r44 =>
 inN r44.1 [
 gotV 7 r44.2.1 fun v45 =>
 (ldO globB true true 6 (v45 0) r44.2.2).bind fun r47 =>
 (aggNV 6 r47.1).bind fun c49 =>
 some ((.agg [(c49.getD 0 .nilp), (c49.getD 1 .nilp), (c49.getD 2 .nilp), (c49.getD 3 .nilp), (c49.getD 4 .nilp), (c49.getD 5 .nilp)]), r47.2)] := (callV_eq vb _ _ _ rfl).trans (by kernel_rfl)
theorem spec_l10Mail_eq (a0 : V) (H : VH) : cv id_spec_l10Mail [a0] H =
 (aggNV 3 a0).bind fun c1 =>
 (appV false 1 16 [] (c1.getD 1 .nilp)).bind fun x8 =>
 (appV false 1 16 [] (c1.getD 2 .nilp)).bind fun x12 =>
 (vOneV (strip (c1.getD 0 .nilp))).bind fun y14 =>
 (vOneV x8).bind fun y15 =>
 (vOneV x12).bind fun y16 =>
 some ((.agg [y14, y15, y16]), H) := (callV_eq vb _ _ _ rfl).trans (by kernel_rfl)
theorem spec_SayLine_eq (a0 a1 : V) (H : VH) : cv id_spec_SayLine [a0, a1] H =
 (aggNV 6 a0).bind fun c1 =>
 (cv id_spec_l10RawSayLine [(.agg [(c1.getD 0 .nilp), (c1.getD 1 .nilp), (c1.getD 2 .nilp), (c1.getD 3 .nilp), (c1.getD 4 .nilp), (c1.getD 5 .nilp)]), (strip a1)] H).bind fun r8 =>
 (vExtV r8.1 0).bind fun x10 =>
 (vExtV r8.1 1).bind fun x11 =>
 (vExtV r8.1 2).bind fun x12 =>
 (aggNV 6 (strip x10)).bind fun c15 =>
 (pc id_spec_l13OwnSession [(frz r8.2 (.agg [(strip (c15.getD 0 .nilp)), (strip (c15.getD 1 .nilp)), (strip (c15.getD 2 .nilp)), (strip (c15.getD 3 .nilp)), (strip (c15.getD 4 .nilp)), (strip (c15.getD 5 .nilp))]))]).bind fun x19 =>
 (aggNV 6 x19).bind fun c23 =>
 some ((.tup [(.agg [(c23.getD 0 .nilp), (c23.getD 1 .nilp), (c23.getD 2 .nilp), (c23.getD 3 .nilp), (c23.getD 4 .nilp), (c23.getD 5 .nilp)]), (strip x11), (strip x12)]), r8.2) := (callV_eq vb _ _ _ rfl).trans (by kernel_rfl)
theorem spec_l10RawSayLine_eq (a0 a1 : V) (H : VH) : cv id_spec_l10RawSayLine [a0, a1] H =
 (aggNV 6 a0).bind fun c1 =>
 (id (
 (qc id_spec_SessionValid [(frz H (.agg [(strip (c1.getD 0 .nilp)), (strip (c1.getD 1 .nilp)), (strip (c1.getD 2 .nilp)), (strip (c1.getD 3 .nilp)), (strip (c1.getD 4 .nilp)), (strip (c1.getD 5 .nilp))]))]).bind fun x6 =>
 (vUnV .not x6).bind fun x7 =>
 ifGV x7 (
 some (0, [(.int .i64 0), (.bool false), (.int .i64 0), (.str []), (.str []), (.sl true []), (.sl true []), (.sl true [])], H)) (
 (vBinV (.int .i64) .eql (strip (c1.getD 0 .nilp)) (.int .i64 5)).bind fun x18 =>
 ifGV x18 (
 some (0, [(.int .i64 0), (.bool false), (.int .i64 0), (.str []), (.str []), (.sl true []), (.sl true []), (.sl true [])], H)) (
 (qc id_spec_TextValid [(frz H a1)]).bind fun x27 =>
 (vUnV .not x27).bind fun x28 =>
 ifVV x28 (
 some (0, [(.int .i64 0), (.bool false), (.int .i64 0), (.str []), (.str []), (.sl true []), (.sl true []), (.sl true [])], H)) (
 some (1, [(strip a1), (c1.getD 0 .nilp), (c1.getD 1 .nilp), (c1.getD 2 .nilp), (c1.getD 3 .nilp), (c1.getD 4 .nilp), (c1.getD 5 .nilp), (.int .i64 0), (.str []), (.str []), (.sl true []), (.sl true []), (.sl true [])], H)))) : Option (Nat × List V × VH))).bind fun r34 =>
 inN r34.1 [
 gotV 8 r34.2.1 fun v35 =>
 some ((.tup [(.agg [(v35 2), (v35 3), (v35 4), (v35 5), (v35 6), (v35 7)]), (v35 0), (v35 1)]), r34.2.2),
 gotV 13 r34.2.1 fun v36 =>
 (cv id_spec_l10Copy [(.agg [(v36 1), (v36 2), (v36 3), (v36 4), (v36 5), (v36 6)])] r34.2.2).bind fun r39 =>
 (aggNV 6 r39.1).bind fun c42 =>
 (id (
 (vBinV (.int .i64) .eql (strip (strip (v36 1))) (.int .i64 4)).bind fun x46 =>
 ifVV x46 (
 (cv id_spec_l10Data [(.agg [(c42.getD 0 .nilp), (c42.getD 1 .nilp), (c42.getD 2 .nilp), (c42.getD 3 .nilp), (c42.getD 4 .nilp), (c42.getD 5 .nilp)]), (strip (v36 0))] r39.2).bind fun r50 =>
 (vExtV r50.1 0).bind fun x52 =>
 (vExtV (stripAt 0 r50.1) 1).bind fun x53 =>
 (aggNV 6 x52).bind fun c55 =>
 some (0, [(strip x53), (v36 7), (v36 8), (v36 9), (v36 10), (v36 11), (v36 12), (c55.getD 0 .nilp), (c55.getD 1 .nilp), (c55.getD 2 .nilp), (c55.getD 3 .nilp), (c55.getD 4 .nilp), (c55.getD 5 .nilp)], r50.2)) (
 (cv id_spec_l10Command [(.agg [(c42.getD 0 .nilp), (c42.getD 1 .nilp), (c42.getD 2 .nilp), (c42.getD 3 .nilp), (c42.getD 4 .nilp), (c42.getD 5 .nilp)]), (strip (v36 0))] r39.2).bind fun r60 =>
 (vExtV r60.1 0).bind fun x62 =>
 (vExtV (stripAt 0 r60.1) 1).bind fun x63 =>
 (aggNV 6 x62).bind fun c65 =>
 some (0, [(strip x63), (v36 7), (v36 8), (v36 9), (v36 10), (v36 11), (v36 12), (c65.getD 0 .nilp), (c65.getD 1 .nilp), (c65.getD 2 .nilp), (c65.getD 3 .nilp), (c65.getD 4 .nilp), (c65.getD 5 .nilp)], r60.2)) : Option (Nat × List V × VH))).bind fun r67 =>
 inN r67.1 [
 gotV 13 r67.2.1 fun v68 =>
 some ((.tup [(.agg [(v68 7), (v68 8), (v68 9), (v68 10), (v68 11), (v68 12)]), (v68 0), (.bool true)]), r67.2.2)]] := (callV_eq vb _ _ _ rfl).trans (by kernel_rfl)
theorem spec_l10Data_eq (a0 a1 : V) (H : VH) : cv id_spec_l10Data [a0, a1] H =
 (aggNV 6 a0).bind fun c1 =>
 (vBinV .str .neq a1 (.str [46])).bind fun x5 =>
 ifVV x5 (
 (id (
 (vBinV .str .neq (strip a1) (.str [])).bind fun x7 =>
 ifGV x7 (
 (vIndexSV (strip (strip a1)) (.int .i64 0)).bind fun x10 =>
 (vBinV (.int .u8) .eql x10 (.int .u8 46)).bind fun x11 =>
 ifVV x11 (
 (vSliceSV (strip (strip (strip a1))) (some (.int .i64 1)) none).bind fun x14 =>
 some (0, [x14, (c1.getD 0 .nilp), (c1.getD 1 .nilp), (c1.getD 2 .nilp), (c1.getD 3 .nilp), (c1.getD 4 .nilp), (c1.getD 5 .nilp), (.int .i64 0), (.str []), (.str []), (.sl true []), (.sl true []), (.sl true [])], H)) (
 some (0, [(strip (strip (strip a1))), (c1.getD 0 .nilp), (c1.getD 1 .nilp), (c1.getD 2 .nilp), (c1.getD 3 .nilp), (c1.getD 4 .nilp), (c1.getD 5 .nilp), (.int .i64 0), (.str []), (.str []), (.sl true []), (.sl true []), (.sl true [])], H))) (
 some (0, [(strip (strip a1)), (c1.getD 0 .nilp), (c1.getD 1 .nilp), (c1.getD 2 .nilp), (c1.getD 3 .nilp), (c1.getD 4 .nilp), (c1.getD 5 .nilp), (.int .i64 0), (.str []), (.str []), (.sl true []), (.sl true []), (.sl true [])], H)) : Option (Nat × List V × VH))).bind fun r17 =>
 inN r17.1 [
 gotV 13 r17.2.1 fun v18 =>
 (id (
 (vLenVV (strip (v18 5))).bind fun x22 =>
 (vBinV (.int .i64) .leq x22 (.int .i64 30)).bind fun x23 =>
 ifVV x23 (
 (vOneV (v18 0)).bind fun y29 =>
 (ownV (v18 5)).bind fun s31 =>
 (appV false 1 16 s31 (.sl true [[y29]])).bind fun x30 =>
 (vOneV x30).bind fun y35 =>
 some (0, [(v18 1), (v18 2), (v18 3), (v18 4), y35, (v18 6), (v18 7), (v18 8), (v18 9), (v18 10), (v18 11), (v18 12)], r17.2.2)) (
 some (0, [(v18 1), (v18 2), (v18 3), (v18 4), (v18 5), (v18 6), (v18 7), (v18 8), (v18 9), (v18 10), (v18 11), (v18 12)], r17.2.2)) : Option (Nat × List V × VH))).bind fun r36 =>
 inN r36.1 [
 gotV 12 r36.2.1 fun v37 =>
 some ((.tup [(.agg [(v37 0), (v37 1), (v37 2), (v37 3), (v37 4), (v37 5)]), (.int .i64 0)]), r36.2.2)]]) (
 (vLenVV (strip (c1.getD 4 .nilp))).bind fun x52 =>
 (vBinV (.int .i64) .gtr x52 (.int .i64 30)).bind fun x53 =>
 ifVV x53 (
 some ((.tup [(.agg [(.int .i64 1), (c1.getD 1 .nilp), (.str []), (.sl true []), (.sl true []), (c1.getD 5 .nilp)]), (.int .i64 552)]), H)) (
 (vLenVV (strip (c1.getD 5 .nilp))).bind fun x60 =>
 (vBinV (.int .i64) .eql x60 (.int .i64 5)).bind fun x61 =>
 ifVV x61 (
 some ((.tup [(.agg [(.int .i64 1), (c1.getD 1 .nilp), (.str []), (.sl true []), (.sl true []), (c1.getD 5 .nilp)]), (.int .i64 452)]), H)) (
 (ownV (c1.getD 5 .nilp)).bind fun s71 =>
 (appV false 3 64 s71 (.sl true [[(c1.getD 2 .nilp), (c1.getD 3 .nilp), (c1.getD 4 .nilp)]])).bind fun x70 =>
 (vOneV x70).bind fun y74 =>
 some ((.tup [(.agg [(.int .i64 1), (c1.getD 1 .nilp), (.str []), (.sl true []), (.sl true []), y74]), (.int .i64 250)]), H)))) := (callV_eq vb _ _ _ rfl).trans (by kernel_rfl)
theorem spec_l10Command_eq (a0 a1 : V) (H : VH) : cv id_spec_l10Command [a0, a1] H =
 (aggNV 6 a0).bind fun c1 =>
 (qc id_spec_l2Cut [(frz H a1), (frz H (.int .u8 32))]).bind fun x5 =>
 (vExtV x5 0).bind fun x7 =>
 (vExtV x5 1).bind fun x8 =>
 (vExtV x5 2).bind fun x9 =>
 (qc id_spec_LowerText [(frz H (strip x7))]).bind fun x14 =>
 (vBinV .str .eql x14 (.str [104, 101, 108, 111])).bind fun x15 =>
 ifVV x15 (
 (pc id_spec_l10Hello [(frz H (.agg [(strip (c1.getD 0 .nilp)), (strip (c1.getD 1 .nilp)), (strip (c1.getD 2 .nilp)), (strip (c1.getD 3 .nilp)), (strip (c1.getD 4 .nilp)), (strip (c1.getD 5 .nilp))])), (frz H (strip a1))]).bind fun x19 =>
 (vExtV x19 0).bind fun x20 =>
 (vExtV (stripAt 0 x19) 1).bind fun x21 =>
 (aggNV 6 x20).bind fun c23 =>
 some ((.tup [(.agg [(c23.getD 0 .nilp), (c23.getD 1 .nilp), (c23.getD 2 .nilp), (c23.getD 3 .nilp), (c23.getD 4 .nilp), (c23.getD 5 .nilp)]), (strip x21)]), H)) (
 (vBinV .str .eql x14 (.str [109, 97, 105, 108])).bind fun x25 =>
 ifVV x25 (
 (pc id_spec_l10From [(frz H (.agg [(strip (c1.getD 0 .nilp)), (strip (c1.getD 1 .nilp)), (strip (c1.getD 2 .nilp)), (strip (c1.getD 3 .nilp)), (strip (c1.getD 4 .nilp)), (strip (c1.getD 5 .nilp))])), (frz H (strip a1))]).bind fun x29 =>
 (vExtV x29 0).bind fun x30 =>
 (vExtV (stripAt 0 x29) 1).bind fun x31 =>
 (aggNV 6 x30).bind fun c33 =>
 some ((.tup [(.agg [(c33.getD 0 .nilp), (c33.getD 1 .nilp), (c33.getD 2 .nilp), (c33.getD 3 .nilp), (c33.getD 4 .nilp), (c33.getD 5 .nilp)]), (strip x31)]), H)) (
 (vBinV .str .eql x14 (.str [114, 99, 112, 116])).bind fun x35 =>
 ifVV x35 (
 (cv id_spec_l10To [(.agg [(c1.getD 0 .nilp), (c1.getD 1 .nilp), (c1.getD 2 .nilp), (c1.getD 3 .nilp), (c1.getD 4 .nilp), (c1.getD 5 .nilp)]), (strip (strip a1))] H).bind fun r40 =>
 (vExtV r40.1 0).bind fun x41 =>
 (vExtV (stripAt 0 r40.1) 1).bind fun x42 =>
 (aggNV 6 x41).bind fun c44 =>
 some ((.tup [(.agg [(c44.getD 0 .nilp), (c44.getD 1 .nilp), (c44.getD 2 .nilp), (c44.getD 3 .nilp), (c44.getD 4 .nilp), (c44.getD 5 .nilp)]), (strip x42)]), r40.2)) (
 (qc id_spec_LowerText [(frz H (strip a1))]).bind fun x47 =>
 (vBinV .str .eql x47 (.str [100, 97, 116, 97])).bind fun x48 =>
 ifVV x48 (
 (vBinV (.int .i64) .neq (strip (c1.getD 0 .nilp)) (.int .i64 3)).bind fun x52 =>
 ifVV x52 (
 some ((.tup [(.agg [(c1.getD 0 .nilp), (c1.getD 1 .nilp), (c1.getD 2 .nilp), (c1.getD 3 .nilp), (c1.getD 4 .nilp), (c1.getD 5 .nilp)]), (.int .i64 503)]), H)) (
 some ((.tup [(.agg [(.int .i64 4), (c1.getD 1 .nilp), (c1.getD 2 .nilp), (c1.getD 3 .nilp), (c1.getD 4 .nilp), (c1.getD 5 .nilp)]), (.int .i64 354)]), H))) (
 (vBinV .str .eql x47 (.str [114, 115, 101, 116])).bind fun x61 =>
 ifVV x61 (
 (id (
 (vBinV (.int .i64) .neq (strip (c1.getD 0 .nilp)) (.int .i64 0)).bind fun x65 =>
 ifVV x65 (
 some (0, [(.int .i64 1), (c1.getD 1 .nilp), (c1.getD 2 .nilp), (c1.getD 3 .nilp), (c1.getD 4 .nilp), (c1.getD 5 .nilp), (.int .i64 0), (.str []), (.str []), (.sl true []), (.sl true []), (.sl true [])], H)) (
 some (0, [(c1.getD 0 .nilp), (c1.getD 1 .nilp), (c1.getD 2 .nilp), (c1.getD 3 .nilp), (c1.getD 4 .nilp), (c1.getD 5 .nilp), (.int .i64 0), (.str []), (.str []), (.sl true []), (.sl true []), (.sl true [])], H)) : Option (Nat × List V × VH))).bind fun r68 =>
 inN r68.1 [
 gotV 12 r68.2.1 fun v69 =>
 some ((.tup [(.agg [(v69 0), (v69 1), (.str []), (.sl true []), (.sl true []), (v69 5)]), (.int .i64 250)]), r68.2.2)]) (
 (vBinV .str .eql x47 (.str [110, 111, 111, 112])).bind fun x76 =>
 ifVV x76 (
 some ((.tup [(.agg [(c1.getD 0 .nilp), (c1.getD 1 .nilp), (c1.getD 2 .nilp), (c1.getD 3 .nilp), (c1.getD 4 .nilp), (c1.getD 5 .nilp)]), (.int .i64 250)]), H)) (
 (vBinV .str .eql x47 (.str [113, 117, 105, 116])).bind fun x81 =>
 ifVV x81 (
 some ((.tup [(.agg [(.int .i64 5), (c1.getD 1 .nilp), (.str []), (.sl true []), (.sl true []), (c1.getD 5 .nilp)]), (.int .i64 221)]), H)) (
 some ((.tup [(.agg [(c1.getD 0 .nilp), (c1.getD 1 .nilp), (c1.getD 2 .nilp), (c1.getD 3 .nilp), (c1.getD 4 .nilp), (c1.getD 5 .nilp)]), (.int .i64 500)]), H)))))))) := (callV_eq vb _ _ _ rfl).trans (by kernel_rfl)
theorem spec_l10Hello_eq (a0 a1 : V) (H : VH) : cv id_spec_l10Hello [a0, a1] H =
 (aggNV 6 a0).bind fun c1 =>
 (id (
 (vLenSV a1).bind fun x5 =>
 (vBinV (.int .i64) .lss x5 (.int .i64 6)).bind fun x6 =>
 ifGV x6 (
 some (0, [(.int .i64 501), (c1.getD 0 .nilp), (c1.getD 1 .nilp), (c1.getD 2 .nilp), (c1.getD 3 .nilp), (c1.getD 4 .nilp), (c1.getD 5 .nilp)], H)) (
 (vIndexSV (strip a1) (.int .i64 4)).bind fun x15 =>
 (vBinV (.int .u8) .neq x15 (.int .u8 32)).bind fun x16 =>
 ifGV x16 (
 some (0, [(.int .i64 501), (c1.getD 0 .nilp), (c1.getD 1 .nilp), (c1.getD 2 .nilp), (c1.getD 3 .nilp), (c1.getD 4 .nilp), (c1.getD 5 .nilp)], H)) (
 (vSliceSV (strip (strip a1)) (some (.int .i64 5)) none).bind fun x24 =>
 (qc id_spec_LowerText [(frz H x24)]).bind fun x25 =>
 (qc id_spec_l2Domain [(frz H x25)]).bind fun x26 =>
 (vUnV .not x26).bind fun x27 =>
 ifVV x27 (
 some (0, [(.int .i64 501), (c1.getD 0 .nilp), (c1.getD 1 .nilp), (c1.getD 2 .nilp), (c1.getD 3 .nilp), (c1.getD 4 .nilp), (c1.getD 5 .nilp)], H)) (
 some (1, [(strip (strip (strip a1))), (c1.getD 0 .nilp), (c1.getD 1 .nilp), (c1.getD 2 .nilp), (c1.getD 3 .nilp), (c1.getD 4 .nilp), (c1.getD 5 .nilp), (.int .i64 0), (.str []), (.str []), (.sl true []), (.sl true []), (.sl true [])], H)))) : Option (Nat × List V × VH))).bind fun r32 =>
 inN r32.1 [
 gotV 7 r32.2.1 fun v33 =>
 some ((.tup [(.agg [(v33 1), (v33 2), (v33 3), (v33 4), (v33 5), (v33 6)]), (v33 0)]), r32.2.2),
 gotV 13 r32.2.1 fun v34 =>
 (vSliceSV (v34 0) (some (.int .i64 5)) none).bind fun x36 =>
 (qc id_spec_LowerText [(frz r32.2.2 x36)]).bind fun x37 =>
 (vOneV x37).bind fun y40 =>
 some ((.tup [(.agg [(.int .i64 1), y40, (.str []), (.sl true []), (.sl true []), (v34 6)]), (.int .i64 250)]), r32.2.2)] := (callV_eq vb _ _ _ rfl).trans (by kernel_rfl)
theorem spec_l10From_eq (a0 a1 : V) (H : VH) : cv id_spec_l10From [a0, a1] H =
 (aggNV 6 a0).bind fun c1 =>
 (qc id_spec_l10Path [(frz H a1), (frz H (.str [77, 65, 73, 76, 32, 70, 82, 79, 77, 58]))]).bind fun x5 =>
 (vExtV x5 0).bind fun x7 =>
 (vExtV x5 1).bind fun x8 =>
 (vUnV .not (strip x8)).bind fun x12 =>
 ifVV x12 (
 some ((.tup [(.agg [(c1.getD 0 .nilp), (c1.getD 1 .nilp), (c1.getD 2 .nilp), (c1.getD 3 .nilp), (c1.getD 4 .nilp), (c1.getD 5 .nilp)]), (.int .i64 501)]), H)) (
 (vBinV (.int .i64) .neq (strip (c1.getD 0 .nilp)) (.int .i64 1)).bind fun x19 =>
 ifVV x19 (
 some ((.tup [(.agg [(c1.getD 0 .nilp), (c1.getD 1 .nilp), (c1.getD 2 .nilp), (c1.getD 3 .nilp), (c1.getD 4 .nilp), (c1.getD 5 .nilp)]), (.int .i64 503)]), H)) (
 (vOneV (strip x7)).bind fun y28 =>
 some ((.tup [(.agg [(.int .i64 2), (c1.getD 1 .nilp), y28, (.sl true []), (.sl true []), (c1.getD 5 .nilp)]), (.int .i64 250)]), H))) := (callV_eq vb _ _ _ rfl).trans (by kernel_rfl)
theorem spec_l10Path_eq (a0 a1 : V) (H : VH) : cv id_spec_l10Path [a0, a1] H =
 (vLenSV a1).bind fun x3 =>
 (id (
 (vLenSV a0).bind fun x6 =>
 (vBinV (.int .i64) .add x3 (.int .i64 2)).bind fun x8 =>
 (vBinV (.int .i64) .lss x6 x8).bind fun x9 =>
 ifGV x9 (
 some (0, [(.str []), (.bool false)], H)) (
 (vSliceSV (strip a0) none (some (strip x3))).bind fun x20 =>
 (qc id_spec_SameText [(frz H x20), (frz H (strip a1))]).bind fun x22 =>
 (vUnV .not x22).bind fun x23 =>
 ifGV x23 (
 some (0, [(.str []), (.bool false)], H)) (
 (vIndexSV (strip (strip a0)) (strip (strip x3))).bind fun x33 =>
 (vBinV (.int .u8) .neq x33 (.int .u8 60)).bind fun x34 =>
 ifGV x34 (
 some (0, [(.str []), (.bool false)], H)) (
 (vLenSV (strip (strip (strip (strip a0))))).bind fun x42 =>
 (vBinV (.int .i64) .sub x42 (.int .i64 1)).bind fun x43 =>
 (vIndexSV (strip (strip (strip a0))) x43).bind fun x44 =>
 (vBinV (.int .u8) .neq x44 (.int .u8 62)).bind fun x45 =>
 ifVV x45 (
 some (0, [(.str []), (.bool false)], H)) (
 some (1, [(strip (strip (strip (strip (strip a0))))), (strip (strip (strip x3)))], H))))) : Option (Nat × List V × VH))).bind fun r49 =>
 inN r49.1 [
 gotV 2 r49.2.1 fun v50 =>
 some ((.tup [(v50 0), (v50 1)]), r49.2.2),
 gotV 2 r49.2.1 fun v51 =>
 (vBinV (.int .i64) .add (v51 1) (.int .i64 1)).bind fun x54 =>
 (vLenSV (strip (v51 0))).bind fun x56 =>
 (vBinV (.int .i64) .sub x56 (.int .i64 1)).bind fun x57 =>
 (vSliceSV (v51 0) (some x54) (some x57)).bind fun x58 =>
 (vBinV .str .eql x58 (.str [])).bind fun x61 =>
 ifVV x61 (
 some ((.tup [(.str []), (.bool true)]), r49.2.2)) (
 (pc id_spec_l2Box [(frz r49.2.2 (strip x58))]).bind fun x65 =>
 (vExtV x65 0).bind fun x67 =>
 (vExtV x65 1).bind fun x68 =>
 (aggNV 3 (strip x67)).bind fun c71 =>
 (vBinV .str .add (strip (c71.getD 1 .nilp)) (.str [64])).bind fun x75 =>
 (vBinV .str .add x75 (strip (c71.getD 2 .nilp))).bind fun x78 =>
 some ((.tup [x78, (strip x68)]), r49.2.2))] := (callV_eq vb _ _ _ rfl).trans (by kernel_rfl)
theorem spec_SameText_eq (a0 a1 : V) (H : VH) : cv id_spec_SameText [a0, a1] H =
 (qc id_spec_LowerText [(frz H a0)]).bind fun x2 =>
 (qc id_spec_LowerText [(frz H a1)]).bind fun x4 =>
 (vBinV .str .eql x2 x4).bind fun x5 =>
 some (x5, H) := (callV_eq vb _ _ _ rfl).trans (by kernel_rfl)
theorem spec_l10To_eq (a0 a1 : V) (H : VH) : cv id_spec_l10To [a0, a1] H =
 (aggNV 6 a0).bind fun c1 =>
 (qc id_spec_l10Path [(frz H a1), (frz H (.str [82, 67, 80, 84, 32, 84, 79, 58]))]).bind fun x5 =>
 (vExtV x5 0).bind fun x7 =>
 (vExtV x5 1).bind fun x8 =>
 (id (
 (vUnV .not (strip x8)).bind fun x12 =>
 ifGV x12 (
 some (0, [(.int .i64 501), (c1.getD 0 .nilp), (c1.getD 1 .nilp), (c1.getD 2 .nilp), (c1.getD 3 .nilp), (c1.getD 4 .nilp), (c1.getD 5 .nilp)], H)) (
 (vBinV .str .eql (strip x7) (.str [])).bind fun x20 =>
 ifVV x20 (
 some (0, [(.int .i64 501), (c1.getD 0 .nilp), (c1.getD 1 .nilp), (c1.getD 2 .nilp), (c1.getD 3 .nilp), (c1.getD 4 .nilp), (c1.getD 5 .nilp)], H)) (
 (vBinV (.int .i64) .neq (strip (c1.getD 0 .nilp)) (.int .i64 2)).bind fun x28 =>
 ifGV x28 (
 (vBinV (.int .i64) .neq (strip (c1.getD 0 .nilp)) (.int .i64 3)).bind fun x32 =>
 ifVV x32 (
 some (0, [(.int .i64 503), (c1.getD 0 .nilp), (c1.getD 1 .nilp), (c1.getD 2 .nilp), (c1.getD 3 .nilp), (c1.getD 4 .nilp), (c1.getD 5 .nilp)], H)) (
 (vLenVV (strip (c1.getD 3 .nilp))).bind fun x41 =>
 (vBinV (.int .i64) .eql x41 (.int .i64 10)).bind fun x42 =>
 ifVV x42 (
 some (0, [(.int .i64 452), (c1.getD 0 .nilp), (c1.getD 1 .nilp), (c1.getD 2 .nilp), (c1.getD 3 .nilp), (c1.getD 4 .nilp), (c1.getD 5 .nilp)], H)) (
 some (1, [(strip (strip x7)), (c1.getD 0 .nilp), (c1.getD 1 .nilp), (c1.getD 2 .nilp), (c1.getD 3 .nilp), (c1.getD 4 .nilp), (c1.getD 5 .nilp), (.int .i64 0), (.str []), (.str []), (.sl true []), (.sl true []), (.sl true [])], H)))) (
 (vLenVV (strip (c1.getD 3 .nilp))).bind fun x52 =>
 (vBinV (.int .i64) .eql x52 (.int .i64 10)).bind fun x53 =>
 ifVV x53 (
 some (0, [(.int .i64 452), (c1.getD 0 .nilp), (c1.getD 1 .nilp), (c1.getD 2 .nilp), (c1.getD 3 .nilp), (c1.getD 4 .nilp), (c1.getD 5 .nilp)], H)) (
 some (1, [(strip (strip x7)), (c1.getD 0 .nilp), (c1.getD 1 .nilp), (c1.getD 2 .nilp), (c1.getD 3 .nilp), (c1.getD 4 .nilp), (c1.getD 5 .nilp), (.int .i64 0), (.str []), (.str []), (.sl true []), (.sl true []), (.sl true [])], H))))) : Option (Nat × List V × VH))).bind fun r58 =>
 inN r58.1 [
 gotV 7 r58.2.1 fun v59 =>
 some ((.tup [(.agg [(v59 1), (v59 2), (v59 3), (v59 4), (v59 5), (v59 6)]), (v59 0)]), r58.2.2),
 gotV 13 r58.2.1 fun v60 =>
 (vOneV (v60 0)).bind fun y68 =>
 (ownV (v60 4)).bind fun s70 =>
 (appV false 1 16 s70 (.sl true [[y68]])).bind fun x69 =>
 (vOneV x69).bind fun y74 =>
 some ((.tup [(.agg [(.int .i64 3), (v60 2), (v60 3), y74, (v60 5), (v60 6)]), (.int .i64 250)]), r58.2.2)] := (callV_eq vb _ _ _ rfl).trans (by kernel_rfl)
theorem spec_l13OwnSession_eq (a0 : V) (H : VH) : cv id_spec_l13OwnSession [a0] H =
 (aggNV 6 a0).bind fun c1 =>
 (pc id_spec_l13OwnMail [(frz H (.agg [(strip (c1.getD 2 .nilp)), (strip (c1.getD 3 .nilp)), (strip (c1.getD 4 .nilp))]))]).bind fun x5 =>
 (aggNV 3 x5).bind fun c8 =>
 (pc id_spec_l13OwnListMail [(frz H (strip (c1.getD 5 .nilp)))]).bind fun x11 =>
 (vOneV x11).bind fun y14 =>
 some ((.agg [(c1.getD 0 .nilp), (c1.getD 1 .nilp), (c8.getD 0 .nilp), (c8.getD 1 .nilp), (c8.getD 2 .nilp), y14]), H) := (callV_eq vb _ _ _ rfl).trans (by kernel_rfl)
theorem spec_l13OwnMail_eq (a0 : V) (H : VH) : cv id_spec_l13OwnMail [a0] H =
 (aggNV 3 a0).bind fun c1 =>
 (appV false 1 16 [] (c1.getD 1 .nilp)).bind fun x6 =>
 (vOneV x6).bind fun y9 =>
 (appV false 1 16 [] (c1.getD 2 .nilp)).bind fun x13 =>
 (vOneV x13).bind fun y16 =>
 some ((.agg [(c1.getD 0 .nilp), y9, y16]), H) := (callV_eq vb _ _ _ rfl).trans (by kernel_rfl)
noncomputable def spec_l13OwnListMail_l3 : List V -> VH -> Option (Option Nat × List V × VH) := roundV (vb.ctx cv lpW') (vb.b.ann 44) (vb.takes 44) ⟨⟨[3, 7, 8, 9], [], []⟩, [(.exit 0, ⟨[3], [], []⟩)]⟩ (loopIn Tryz.f44 3)
theorem spec_l13OwnListMail_l3_eq (v0 v1 v2 v3 : V) (H : VH) : spec_l13OwnListMail_l3 [v0, v1, v2, v3] H =
 (vBinV (.int .i64) .lss v3 v2).bind fun x6 =>
 ifVV x6 (
 (vIdxV 3 v1 v3).bind fun x7 =>
 (ldO globB false true 3 x7 H).bind fun r9 =>
 (aggNV 3 r9.1).bind fun c12 =>
 (pc id_spec_l13OwnMail [(frz r9.2 (.agg [(strip (c12.getD 0 .nilp)), (strip (c12.getD 1 .nilp)), (strip (c12.getD 2 .nilp))]))]).bind fun x15 =>
 (aggNV 3 x15).bind fun c17 =>
 (ownV v0).bind fun s19 =>
 (appV false 3 64 s19 (.sl true [[(c17.getD 0 .nilp), (c17.getD 1 .nilp), (c17.getD 2 .nilp)]])).bind fun x18 =>
 (vBinV (.int .i64) .add v3 (.int .i64 1)).bind fun x21 =>
 some (none, [x18, v1, v2, x21], r9.2)) (
 some (some 0, [v0], H)) := by kernel_rfl
theorem spec_l13OwnListMail_eq (a0 : V) (H : VH) : cv id_spec_l13OwnListMail [a0] H =
 (vLenVV (strip a0)).bind fun x4 =>
 (lpW' spec_l13OwnListMail_l3 [(.sl true []), (strip a0), x4, (.int .i64 0)] H).bind fun r23 =>
 inN r23.1 [
 gotV 1 r23.2.1 fun v24 =>
 some ((v24 0), r23.2.2)] := (callV_eq vb _ _ _ rfl).trans (by kernel_rfl)
noncomputable def impl_SayAll_l5 : List V -> VH -> Option (Option Nat × List V × VH) := roundV (vb.ctx cv lpW') (vb.b.ann 15) (vb.takes 15) ⟨⟨[7, 8, 20, 21, 22], [(4, (4, 0))], [(4, 6)]⟩, [(.exit 0, ⟨[7, 8], [(4, (4, 0))], [(4, 6)]⟩), (.ret, ⟨[5, 6], [(4, (4, 0))], [(4, 6)]⟩)]⟩ (loopIn Tryz.f15 5)
theorem impl_SayAll_l5_eq (v0 v1 v2 v3 v4 v5 v6 v7 v8 v9 v10 : V) (H : VH) : impl_SayAll_l5 [v0, v1, v2, v3, v4, v5, v6, v7, v8, v9, v10] H =
 (vBinV (.int .i64) .lss v4 v3).bind fun x23 =>
 ifVV x23 (
 (vIdxV 1 v2 v4).bind fun x24 =>
 (ldO globB false false 1 x24 H).bind fun r26 =>
 (cv id_impl_Session_say [(strip v0), (strip r26.1)] r26.2).bind fun r30 =>
 (vExtV r30.1 0).bind fun x32 =>
 (vExtV r30.1 1).bind fun x33 =>
 (vUnV .not (strip x33)).bind fun x37 =>
 ifVV x37 (
 some (some 1, [(.sl true []), (.bool false), (.int .i64 0), (.str []), (.str []), (.sl true []), (.sl true []), (.sl true [])], r30.2)) (
 (vBinV (.int .i64) .neq (strip x32) (.int .i64 0)).bind fun x43 =>
 ifVV x43 (
 (vOneV (strip (strip x32))).bind fun y47 =>
 (ownV v1).bind fun s49 =>
 (appV false 1 8 s49 (.sl true [[y47]])).bind fun x48 =>
 (vBinV (.int .i64) .add v4 (.int .i64 1)).bind fun x51 =>
 some (none, [v0, x48, v2, v3, x51, v5, v6, v7, v8, v9, v10], r30.2)) (
 (vBinV (.int .i64) .add v4 (.int .i64 1)).bind fun x53 =>
 some (none, [v0, v1, v2, v3, x53, v5, v6, v7, v8, v9, v10], r30.2)))) (
 some (some 0, [v0, v1, v5, v6, v7, v8, v9, v10], H)) := by kernel_rfl
theorem impl_SayAll_eq (a0 a1 : V) (H : VH) : cv id_impl_SayAll [a0, a1] H =
 (aggNV 6 a0).bind fun c1 =>
 (qc id_impl_SessionValid [(frz H (.agg [(strip (c1.getD 0 .nilp)), (strip (c1.getD 1 .nilp)), (strip (c1.getD 2 .nilp)), (strip (c1.getD 3 .nilp)), (strip (c1.getD 4 .nilp)), (strip (c1.getD 5 .nilp))]))]).bind fun x6 =>
 (vUnV .not x6).bind fun x7 =>
 ifVV x7 (
 some ((.tup [(.agg [(.int .i64 0), (.str []), (.str []), (.sl true []), (.sl true []), (.sl true [])]), (.sl true []), (.bool false)]), H)) (
 (pc id_impl_copySession [(frz H (.agg [(strip (c1.getD 0 .nilp)), (strip (c1.getD 1 .nilp)), (strip (c1.getD 2 .nilp)), (strip (c1.getD 3 .nilp)), (strip (c1.getD 4 .nilp)), (strip (c1.getD 5 .nilp))]))]).bind fun x13 =>
 (aggNV 6 x13).bind fun c17 =>
 (stO (.ptr H.length 0) [(c17.getD 0 .nilp), (c17.getD 1 .nilp), (c17.getD 2 .nilp), (c17.getD 3 .nilp), (c17.getD 4 .nilp), (c17.getD 5 .nilp)] (H ++ [[(.int .i64 0), (.str []), (.str []), (.sl true []), (.sl true []), (.sl true [])]])).bind fun H18 =>
 (vLenVV (strip a1)).bind fun x21 =>
 (lpW' impl_SayAll_l5 [(.ptr H.length 0), (.sl true []), (strip a1), x21, (.int .i64 0), (.int .i64 0), (.str []), (.str []), (.sl true []), (.sl true []), (.sl true [])] H18).bind fun r55 =>
 inN r55.1 [
 gotV 8 r55.2.1 fun v56 =>
 (ldO globB true true 6 (v56 0) r55.2.2).bind fun r58 =>
 (aggNV 6 r58.1).bind fun c61 =>
 some ((.tup [(.agg [(c61.getD 0 .nilp), (c61.getD 1 .nilp), (c61.getD 2 .nilp), (c61.getD 3 .nilp), (c61.getD 4 .nilp), (c61.getD 5 .nilp)]), (v56 1), (.bool true)]), r58.2),
 gotV 8 r55.2.1 fun v64 =>
 some ((.tup [(.agg [(v64 2), (v64 3), (v64 4), (v64 5), (v64 6), (v64 7)]), (v64 0), (v64 1)]), r55.2.2)]) := (callV_eq vb _ _ _ rfl).trans (by kernel_rfl)
theorem impl_SessionValid_eq (a0 : V) (H : VH) : cv id_impl_SessionValid [a0] H =
 (aggNV 6 a0).bind fun c1 =>
 (id (
 (vBinV (.int .i64) .lss (strip (c1.getD 0 .nilp)) (.int .i64 0)).bind fun x5 =>
 ifGV x5 (
 some (0, [(.bool false)], H)) (
 (vBinV (.int .i64) .gtr (strip (c1.getD 0 .nilp)) (.int .i64 5)).bind fun x17 =>
 ifGV x17 (
 some (0, [(.bool false)], H)) (
 (qc id_impl_draftValid [(frz H (.agg [(strip (c1.getD 2 .nilp)), (strip (c1.getD 3 .nilp)), (strip (c1.getD 4 .nilp))])), (frz H (.int .i64 0)), (frz H (.int .i64 31))]).bind fun x28 =>
 (vUnV .not x28).bind fun x29 =>
 ifGV x29 (
 some (0, [(.bool false)], H)) (
 (qc id_impl_mailsValid [(frz H (strip (c1.getD 5 .nilp))), (frz H (.int .i64 5))]).bind fun x38 =>
 (vUnV .not x38).bind fun x39 =>
 ifGV x39 (
 some (0, [(.bool false)], H)) (
 (vBinV .str .neq (strip (c1.getD 1 .nilp)) (.str [])).bind fun x46 =>
 ifGV x46 (
 (qc id_impl_isDomain [(frz H (strip (c1.getD 1 .nilp)))]).bind fun x50 =>
 (vUnV .not x50).bind fun x51 =>
 ifVV x51 (
 some (0, [(.bool false)], H)) (
 some (1, [(c1.getD 0 .nilp), (c1.getD 1 .nilp), (c1.getD 2 .nilp), (c1.getD 3 .nilp), (c1.getD 4 .nilp), (c1.getD 5 .nilp)], H))) (
 some (1, [(c1.getD 0 .nilp), (c1.getD 1 .nilp), (c1.getD 2 .nilp), (c1.getD 3 .nilp), (c1.getD 4 .nilp), (c1.getD 5 .nilp)], H)))))) : Option (Nat × List V × VH))).bind fun r57 =>
 inN r57.1 [
 gotV 1 r57.2.1 fun v58 =>
 some ((v58 0), r57.2.2),
 gotV 6 r57.2.1 fun v59 =>
 (id (
 (vBinV (.int .i64) .neq (strip (v59 0)) (.int .i64 5)).bind fun x62 =>
 ifGV x62 (
 (vBinV .str .eql (strip (v59 1)) (.str [])).bind fun x66 =>
 (vBinV (.int .i64) .eql (strip (v59 0)) (.int .i64 0)).bind fun x69 =>
 (vBinV .bool .neq x66 x69).bind fun x70 =>
 ifVV x70 (
 some (0, [(.bool false)], r57.2.2)) (
 (vLenVV (strip (v59 3))).bind fun x77 =>
 (vBinV (.int .i64) .gtr x77 (.int .i64 0)).bind fun x78 =>
 (vBinV (.int .i64) .eql (strip (v59 0)) (.int .i64 3)).bind fun x81 =>
 ifGV x81 (
 (vBinV .bool .neq x78 (.bool true)).bind fun x84 =>
 ifVV x84 (
 some (0, [(.bool false)], r57.2.2)) (
 (vLenVV (strip (v59 4))).bind fun x90 =>
 (vBinV (.int .i64) .gtr x90 (.int .i64 0)).bind fun x91 =>
 ifGV x91 (
 (vBinV (.int .i64) .neq (strip (v59 0)) (.int .i64 4)).bind fun x95 =>
 ifVV x95 (
 some (0, [(.bool false)], r57.2.2)) (
 some (1, [(v59 0), (v59 1), (v59 2), (v59 3), (v59 4), (v59 5)], r57.2.2))) (
 some (1, [(v59 0), (v59 1), (v59 2), (v59 3), (v59 4), (v59 5)], r57.2.2)))) (
 (vBinV (.int .i64) .eql (strip (v59 0)) (.int .i64 4)).bind fun x103 =>
 (vBinV .bool .neq x78 x103).bind fun x105 =>
 ifVV x105 (
 some (0, [(.bool false)], r57.2.2)) (
 (vLenVV (strip (v59 4))).bind fun x111 =>
 (vBinV (.int .i64) .gtr x111 (.int .i64 0)).bind fun x112 =>
 ifGV x112 (
 (vBinV (.int .i64) .neq (strip (v59 0)) (.int .i64 4)).bind fun x116 =>
 ifVV x116 (
 some (0, [(.bool false)], r57.2.2)) (
 some (1, [(v59 0), (v59 1), (v59 2), (v59 3), (v59 4), (v59 5)], r57.2.2))) (
 some (1, [(v59 0), (v59 1), (v59 2), (v59 3), (v59 4), (v59 5)], r57.2.2)))))) (
 (vLenVV (strip (v59 3))).bind fun x127 =>
 (vBinV (.int .i64) .gtr x127 (.int .i64 0)).bind fun x128 =>
 (vBinV (.int .i64) .eql (strip (v59 0)) (.int .i64 3)).bind fun x131 =>
 ifGV x131 (
 (vBinV .bool .neq x128 (.bool true)).bind fun x134 =>
 ifVV x134 (
 some (0, [(.bool false)], r57.2.2)) (
 (vLenVV (strip (v59 4))).bind fun x140 =>
 (vBinV (.int .i64) .gtr x140 (.int .i64 0)).bind fun x141 =>
 ifGV x141 (
 (vBinV (.int .i64) .neq (strip (v59 0)) (.int .i64 4)).bind fun x145 =>
 ifVV x145 (
 some (0, [(.bool false)], r57.2.2)) (
 some (1, [(v59 0), (v59 1), (v59 2), (v59 3), (v59 4), (v59 5)], r57.2.2))) (
 some (1, [(v59 0), (v59 1), (v59 2), (v59 3), (v59 4), (v59 5)], r57.2.2)))) (
 (vBinV (.int .i64) .eql (strip (v59 0)) (.int .i64 4)).bind fun x153 =>
 (vBinV .bool .neq x128 x153).bind fun x155 =>
 ifVV x155 (
 some (0, [(.bool false)], r57.2.2)) (
 (vLenVV (strip (v59 4))).bind fun x161 =>
 (vBinV (.int .i64) .gtr x161 (.int .i64 0)).bind fun x162 =>
 ifGV x162 (
 (vBinV (.int .i64) .neq (strip (v59 0)) (.int .i64 4)).bind fun x166 =>
 ifVV x166 (
 some (0, [(.bool false)], r57.2.2)) (
 some (1, [(v59 0), (v59 1), (v59 2), (v59 3), (v59 4), (v59 5)], r57.2.2))) (
 some (1, [(v59 0), (v59 1), (v59 2), (v59 3), (v59 4), (v59 5)], r57.2.2))))) : Option (Nat × List V × VH))).bind fun r172 =>
 inN r172.1 [
 gotV 1 r172.2.1 fun v173 =>
 some ((v173 0), r172.2.2),
 gotV 6 r172.2.1 fun v174 =>
 (vBinV .str .eql (strip (v174 2)) (.str [])).bind fun x178 =>
 ifGV x178 (
 some ((.bool true), r172.2.2)) (
 (vBinV (.int .i64) .eql (strip (v174 0)) (.int .i64 2)).bind fun x188 =>
 ifGV x188 (
 some ((.bool true), r172.2.2)) (
 (vBinV (.int .i64) .eql (strip (v174 0)) (.int .i64 3)).bind fun x197 =>
 ifGV x197 (
 some ((.bool true), r172.2.2)) (
 (vBinV (.int .i64) .eql (strip (v174 0)) (.int .i64 4)).bind fun x204 =>
 some (x204, r172.2.2))))]] := (callV_eq vb _ _ _ rfl).trans (by kernel_rfl)
theorem impl_draftValid_eq (a0 a1 a2 : V) (H : VH) : cv id_impl_draftValid [a0, a1, a2] H =
 (aggNV 3 a0).bind fun c1 =>
 (qc id_impl_isFrom [(frz H (strip (c1.getD 0 .nilp)))]).bind fun x5 =>
 ifGV x5 (
 (vLenVV (strip (c1.getD 1 .nilp))).bind fun x9 =>
 (vBinV (.int .i64) .geq x9 a1).bind fun x11 =>
 ifGV x11 (
 (vLenVV (strip (c1.getD 1 .nilp))).bind fun x16 =>
 (vBinV (.int .i64) .leq x16 (.int .i64 10)).bind fun x17 =>
 ifGV x17 (
 (qc id_slices_ContainsFunc___string_string_ [(frz H (strip (c1.getD 1 .nilp))), (frz H (.fn id_impl_draftValid_1 []))]).bind fun x22 =>
 (vUnV .not x22).bind fun x23 =>
 ifGV x23 (
 (qc id_impl_areTexts [(frz H (strip (c1.getD 2 .nilp))), (frz H a2)]).bind fun x29 =>
 some (x29, H)) (
 some ((.bool false), H))) (
 some ((.bool false), H))) (
 some ((.bool false), H))) (
 some ((.bool false), H)) := (callV_eq vb _ _ _ rfl).trans (by kernel_rfl)
theorem impl_isFrom_eq (a0 : V) (H : VH) : cv id_impl_isFrom [a0] H =
 (vBinV .str .eql a0 (.str [])).bind fun x2 =>
 ifGV x2 (
 some ((.bool true), H)) (
 (qc id_impl_isPath [(frz H (strip a0))]).bind fun x7 =>
 some (x7, H)) := (callV_eq vb _ _ _ rfl).trans (by kernel_rfl)
theorem impl_isPath_eq (a0 : V) (H : VH) : cv id_impl_isPath [a0] H =
 (qc id_strings_Cut [(frz H a0), (frz H (.str [64]))]).bind fun x2 =>
 (vExtV x2 0).bind fun x4 =>
 (vExtV x2 1).bind fun x5 =>
 (vExtV x2 2).bind fun x6 =>
 ifGV (strip x6) (
 (qc id_impl_isLocal [(frz H (strip x4))]).bind fun x13 =>
 ifGV x13 (
 (qc id_impl_isDomain [(frz H (strip x5))]).bind fun x17 =>
 some (x17, H)) (
 some ((.bool false), H))) (
 some ((.bool false), H)) := (callV_eq vb _ _ _ rfl).trans (by kernel_rfl)
theorem strings_Cut_eq (a0 a1 : V) (H : VH) : cv id_strings_Cut [a0, a1] H =
 (qc id_internal_stringslite_Cut [(frz H a0), (frz H a1)]).bind fun x5 =>
 (vExtV x5 0).bind fun x6 =>
 (vExtV x5 1).bind fun x7 =>
 (vExtV x5 2).bind fun x8 =>
 some ((.tup [(strip x6), (strip x7), (strip x8)]), H) := (callV_eq vb _ _ _ rfl).trans (by kernel_rfl)
theorem internal_stringslite_Cut_eq (a0 a1 : V) (H : VH) : cv id_internal_stringslite_Cut [a0, a1] H =
 (qc id_internal_stringslite_Index [(frz H a0), (frz H a1)]).bind fun x5 =>
 (vBinV (.int .i64) .geq x5 (.int .i64 0)).bind fun x8 =>
 ifVV x8 (
 (vSliceSV (strip a0) none (some (strip x5))).bind fun x11 =>
 (vLenSV (strip a1)).bind fun x15 =>
 (vBinV (.int .i64) .add (strip (strip x5)) x15).bind fun x16 =>
 (vSliceSV (strip (strip a0)) (some x16) none).bind fun x17 =>
 some ((.tup [x11, x17, (.bool true)]), H)) (
 some ((.tup [(strip a0), (.str []), (.bool false)]), H)) := (callV_eq vb _ _ _ rfl).trans (by kernel_rfl)
noncomputable def internal_stringslite_Index_l15 : List V -> VH -> Option (Option Nat × List V × VH) := roundV (vb.ctx cv lpW') (vb.b.ann 110) (vb.takes 110) ⟨⟨[0, 1, 5, 6, 7, 8, 9, 10], [], []⟩, [(.exit 1, ⟨[], [], []⟩), (.ret, ⟨[4], [], []⟩)]⟩ (loopIn Tryz.f110 15)
theorem internal_stringslite_Index_eq (a0 a1 : V) (H : VH) : cv id_internal_stringslite_Index [a0, a1] H =
 (vLenSV a1).bind fun x2 =>
 (id (
 (vBinV (.int .i64) .eql x2 (.int .i64 0)).bind fun x5 =>
 ifGV x5 (
 some (0, [(.int .i64 0)], H)) (
 (vBinV .str .eql (strip a1) a0).bind fun x12 =>
 ifVV x12 (
 some (0, [(.int .i64 0)], H)) (
 (vBinV (.int .i64) .eql (strip x2) (.int .i64 1)).bind fun x17 =>
 ifVV x17 (
 (vIndexSV (strip (strip a1)) (.int .i64 0)).bind fun x21 =>
 (qc id_internal_stringslite_IndexByte [(frz H (strip a0)), (frz H x21)]).bind fun x22 =>
 some (0, [x22], H)) (
 (vLenSV (strip a0)).bind fun x26 =>
 (vBinV (.int .i64) .geq (strip (strip x2)) x26).bind fun x27 =>
 ifVV x27 (
 some (0, [(.int .i64 (-1))], H)) (
 (ldO globB false false 1 (.gp 0 0) H).bind fun r32 =>
 (vBinV (.int .i64) .leq (strip (strip (strip x2))) r32.1).bind fun x33 =>
 ifGV x33 (
 (vLenSV (strip (strip a0))).bind fun x36 =>
 (vBinV (.int .i64) .leq x36 (.int .i64 64)).bind fun x37 =>
 ifVV x37 (
 (extB 2 [(strip (strip (strip a0))), (strip (strip a1))] fun x42 =>
  some (0, [x42], r32.2))) (
 some (1, [(strip (strip (strip a0))), (strip (strip a1)), (strip (strip (strip (strip x2))))], r32.2))) (
 some (1, [(strip (strip a0)), (strip (strip a1)), (strip (strip (strip (strip x2))))], r32.2)))))) : Option (Nat × List V × VH))).bind fun r46 =>
 inN r46.1 [
 gotV 1 r46.2.1 fun v47 =>
 some ((v47 0), r46.2.2),
 gotV 3 r46.2.1 fun v48 =>
 (vIndexSV (v48 1) (.int .i64 0)).bind fun x50 =>
 (vIndexSV (strip (v48 1)) (.int .i64 1)).bind fun x53 =>
 (vLenSV (v48 0)).bind fun x57 =>
 (vBinV (.int .i64) .sub x57 (v48 2)).bind fun x59 =>
 (vBinV (.int .i64) .add x59 (.int .i64 1)).bind fun x60 =>
 (lpW' internal_stringslite_Index_l15 [(strip (v48 0)), (strip (strip (v48 1))), (strip (v48 2)), x50, x53, (.int .i64 0), x60, (.int .i64 0)] r46.2.2).bind fun r208 =>
 inN r208.1 [
 gotV 0 r208.2.1 fun v209 =>
 some ((.int .i64 (-1)), r208.2.2),
 gotV 1 r208.2.1 fun v211 =>
 some ((v211 0), r208.2.2)]] := (callV_eq vb _ _ _ rfl).trans (by kernel_rfl)
theorem internal_stringslite_IndexByte_eq (a0 a1 : V) (H : VH) : cv id_internal_stringslite_IndexByte [a0, a1] H =
 (extB 0 [a0, a1] fun x3 =>
  some (x3, H)) := (callV_eq vb _ _ _ rfl).trans (by kernel_rfl)
noncomputable def internal_bytealg_IndexRabinKarp_string__l5 : List V -> VH -> Option (Option Nat × List V × VH) := roundV (vb.ctx cv lpW') (vb.b.ann 121) (vb.takes 121) ⟨⟨[0, 1, 5, 6, 7, 8, 9], [], []⟩, [(.exit 0, ⟨[0, 1, 5, 6, 7, 8], [], []⟩)]⟩ (loopIn Tryz.f121 5)
noncomputable def internal_bytealg_IndexRabinKarp_string__l11 : List V -> VH -> Option (Option Nat × List V × VH) := roundV (vb.ctx cv lpW') (vb.b.ann 121) (vb.takes 121) ⟨⟨[0, 1, 5, 6, 7, 8, 10], [], []⟩, [(.exit 2, ⟨[], [], []⟩), (.ret, ⟨[4], [], []⟩)]⟩ (loopIn Tryz.f121 11)
noncomputable def internal_bytealg_hashStr_string__l3 : List V -> VH -> Option (Option Nat × List V × VH) := roundV (vb.ctx cv lpW') (vb.b.ann 126) (vb.takes 126) ⟨⟨[0, 4, 5], [], []⟩, [(.exit 0, ⟨[0, 4], [], []⟩)]⟩ (loopIn Tryz.f126 3)
noncomputable def internal_bytealg_hashStr_string__l8 : List V -> VH -> Option (Option Nat × List V × VH) := roundV (vb.ctx cv lpW') (vb.b.ann 126) (vb.takes 126) ⟨⟨[4, 6, 7, 8], [], []⟩, [(.exit 2, ⟨[4, 6], [], []⟩)]⟩ (loopIn Tryz.f126 8)
theorem impl_isLocal_eq (a0 : V) (H : VH) : cv id_impl_isLocal [a0] H =
 (vLenSV a0).bind fun x2 =>
 (vBinV (.int .i64) .leq x2 (.int .i64 30)).bind fun x3 =>
 ifGV x3 (
 (pc id_strings_Split [(frz H (strip a0)), (frz H (.str [46]))]).bind fun x6 =>
 (qc id_slices_ContainsFunc___string_string_ [(frz H x6), (frz H (.fn id_impl_isLocal_1 []))]).bind fun x7 =>
 (vUnV .not x7).bind fun x8 =>
 some (x8, H)) (
 some ((.bool false), H)) := (callV_eq vb _ _ _ rfl).trans (by kernel_rfl)
theorem strings_Split_eq (a0 a1 : V) (H : VH) : cv id_strings_Split [a0, a1] H =
 (pc id_strings_genSplit [(frz H a0), (frz H a1), (frz H (.int .i64 0)), (frz H (.int .i64 (-1)))]).bind fun x3 =>
 some (x3, H) := (callV_eq vb _ _ _ rfl).trans (by kernel_rfl)
noncomputable def strings_genSplit_l11 : List V -> VH -> Option (Option Nat × List V × VH) := roundV (vb.ctx cv lpW') (vb.b.ann 89) (vb.takes 89) ⟨⟨[0, 1, 2, 3, 9, 10], [], []⟩, [(.exit 0, ⟨[0, 9, 10], [], []⟩)]⟩ (loopIn Tryz.f89 11)
theorem strings_genSplit_l11_eq (v0 v1 v2 v3 v4 v5 : V) (H : VH) : strings_genSplit_l11 [v0, v1, v2, v3, v4, v5] H =
 (vBinV (.int .i64) .lss v5 v3).bind fun x34 =>
 ifVV x34 (
 (qc id_strings_Index [(frz H v0), (frz H v1)]).bind fun x37 =>
 (vBinV (.int .i64) .lss x37 (.int .i64 0)).bind fun x40 =>
 ifVV x40 (
 some (some 0, [(strip v0), v4, (strip v5)], H)) (
 (vBinV (.int .i64) .add (strip x37) v2).bind fun x46 =>
 (vSliceSV (strip v0) none (some x46)).bind fun x47 =>
 (vIdxV 1 (strip v4) (strip v5)).bind fun x48 =>
 (vOneV x47).bind fun y50 =>
 (stO x48 [y50] H).bind fun H51 =>
 (vLenSV (strip v1)).bind fun x55 =>
 (vBinV (.int .i64) .add (strip (strip x37)) x55).bind fun x56 =>
 (vSliceSV (strip (strip v0)) (some x56) none).bind fun x57 =>
 (vBinV (.int .i64) .add (strip (strip v5)) (.int .i64 1)).bind fun x60 =>
 some (none, [x57, (strip (strip v1)), (strip v2), (strip v3), v4, x60], H51))) (
 some (some 0, [v0, v4, (strip v5)], H)) := by kernel_rfl
theorem strings_genSplit_eq (a0 a1 a2 a3 : V) (H : VH) : cv id_strings_genSplit [a0, a1, a2, a3] H =
 (vBinV (.int .i64) .eql a3 (.int .i64 0)).bind fun x2 =>
 ifVV x2 (
 some ((.sl true []), H)) (
 (vBinV .str .eql a1 (.str [])).bind fun x5 =>
 ifVV x5 (
 (pc id_strings_explode [(frz H a0), (frz H (strip a3))]).bind fun x8 =>
 some (x8, H)) (
 (id (
 (vBinV (.int .i64) .lss (strip a3) (.int .i64 0)).bind fun x11 =>
 ifVV x11 (
 (qc id_strings_Count [(frz H a0), (frz H (strip a1))]).bind fun x14 =>
 (vBinV (.int .i64) .add x14 (.int .i64 1)).bind fun x15 =>
 some (0, [(strip a0), (strip (strip a1)), a2, x15], H)) (
 some (0, [a0, (strip a1), a2, (strip (strip a3))], H)) : Option (Nat × List V × VH))).bind fun r17 =>
 inN r17.1 [
 gotV 4 r17.2.1 fun v18 =>
 (vLenSV (v18 0)).bind fun x21 =>
 (vBinV (.int .i64) .add x21 (.int .i64 1)).bind fun x22 =>
 (vMinV (v18 3) x22).bind fun x23 =>
 (mkLenV 16 x23 x23).bind fun x26 =>
 (vBinV (.int .i64) .sub (strip x23) (.int .i64 1)).bind fun x29 =>
 (lpW' strings_genSplit_l11 [(strip (v18 0)), (v18 1), (v18 2), x29, (.obs r17.2.2.length 0 x26.1 1), (.int .i64 0)] (r17.2.2 ++ [repV x26.2 [(.str [])]])).bind fun r62 =>
 inN r62.1 [
 gotV 3 r62.2.1 fun v63 =>
 (vIdxV 1 (strip (v63 1)) (v63 2)).bind fun x67 =>
 (vOneV (v63 0)).bind fun y69 =>
 (stO x67 [y69] r62.2.2).bind fun H70 =>
 (vBinV (.int .i64) .add (strip (v63 2)) (.int .i64 1)).bind fun x73 =>
 (vSliceVV 1 (strip (v63 1)) none (some x73)).bind fun x74 =>
 some (x74, H70)]])) := (callV_eq vb _ _ _ rfl).trans (by kernel_rfl)
noncomputable def strings_explode_l6 : List V -> VH -> Option (Option Nat × List V × VH) := roundV (vb.ctx cv lpW') (vb.b.ann 103) (vb.takes 103) ⟨⟨[0, 1, 6, 7], [], []⟩, [(.exit 0, ⟨[0, 1, 6], [], []⟩)]⟩ (loopIn Tryz.f103 6)
noncomputable def strings_Count_l6 : List V -> VH -> Option (Option Nat × List V × VH) := roundV (vb.ctx cv lpW') (vb.b.ann 104) (vb.takes 104) ⟨⟨[0, 1, 5], [], []⟩, [(.ret, ⟨[4], [], []⟩)]⟩ (loopIn Tryz.f104 6)
theorem strings_Count_eq (a0 a1 : V) (H : VH) : cv id_strings_Count [a0, a1] H =
 (vLenSV a1).bind fun x2 =>
 (vBinV (.int .i64) .eql x2 (.int .i64 0)).bind fun x3 =>
 ifVV x3 (
 (qc id_unicode_utf8_RuneCountInString [(frz H a0)]).bind fun x5 =>
 (vBinV (.int .i64) .add x5 (.int .i64 1)).bind fun x6 =>
 some (x6, H)) (
 (vLenSV (strip a1)).bind fun x9 =>
 (vBinV (.int .i64) .eql x9 (.int .i64 1)).bind fun x10 =>
 ifVV x10 (
 (vIndexSV (strip (strip a1)) (.int .i64 0)).bind fun x13 =>
 (extB 1 [a0, x13] fun x14 =>
  some (x14, H))) (
 (lpW' strings_Count_l6 [a0, (strip (strip a1)), (.int .i64 0)] H).bind fun r35 =>
 inN r35.1 [
 gotV 1 r35.2.1 fun v36 =>
 some ((v36 0), r35.2.2)])) := (callV_eq vb _ _ _ rfl).trans (by kernel_rfl)
theorem strings_Index_eq (a0 a1 : V) (H : VH) : cv id_strings_Index [a0, a1] H =
 (qc id_internal_stringslite_Index [(frz H a0), (frz H a1)]).bind fun x3 =>
 some (x3, H) := (callV_eq vb _ _ _ rfl).trans (by kernel_rfl)
theorem slices_ContainsFunc___string_string__eq (a0 a1 : V) (H : VH) : cv id_slices_ContainsFunc___string_string_ [a0, a1] H =
 (qc id_slices_IndexFunc___string_string_ [(frz H (strip a0)), (frz H a1)]).bind fun x3 =>
 (vBinV (.int .i64) .geq x3 (.int .i64 0)).bind fun x4 =>
 some (x4, H) := (callV_eq vb _ _ _ rfl).trans (by kernel_rfl)
noncomputable def slices_IndexFunc___string_string__l2 : List V -> VH -> Option (Option Nat × List V × VH) := roundV (vb.ctx cv lpW') (vb.b.ann 84) (vb.takes 84) ⟨⟨[0, 1, 7, 8], [], []⟩, [(.exit 0, ⟨[], [], []⟩), (.ret, ⟨[4], [], []⟩)]⟩ (loopIn Tryz.f84 2)
theorem slices_IndexFunc___string_string__l2_eq (v0 v1 v2 v3 : V) (H : VH) : slices_IndexFunc___string_string__l2 [v0, v1, v2, v3] H =
 (vBinV (.int .i64) .lss v3 v2).bind fun x4 =>
 ifVV x4 (
 (vIdxV 1 (strip v0) v3).bind fun x10 =>
 (ldO globB false false 1 x10 H).bind fun r12 =>
 (calleeV v1).bind fun p14 =>
 (qc p14.1 ((([r12.1] : List V) ++ p14.2).map (frz r12.2))).bind fun x13 =>
 ifVV x13 (
 some (some 1, [(strip v3)], r12.2)) (
 (vBinV (.int .i64) .add (strip v3) (.int .i64 1)).bind fun x17 =>
 some (none, [v0, (strip v1), v2, x17], r12.2))) (
 some (some 0, [], H)) := by kernel_rfl
theorem slices_IndexFunc___string_string__eq (a0 a1 : V) (H : VH) : cv id_slices_IndexFunc___string_string_ [a0, a1] H =
 (vLenVV (strip a0)).bind fun x2 =>
 (lpW' slices_IndexFunc___string_string__l2 [a0, a1, x2, (.int .i64 0)] H).bind fun r19 =>
 inN r19.1 [
 gotV 0 r19.2.1 fun v20 =>
 some ((.int .i64 (-1)), r19.2.2),
 gotV 1 r19.2.1 fun v22 =>
 some ((v22 0), r19.2.2)] := (callV_eq vb _ _ _ rfl).trans (by kernel_rfl)
theorem impl_isLocal_1_eq (a0 : V) (H : VH) : cv id_impl_isLocal_1 [a0] H =
 (qc id_impl_AtomValid [(frz H a0)]).bind fun x2 =>
 (vUnV .not x2).bind fun x3 =>
 some (x3, H) := (callV_eq vb _ _ _ rfl).trans (by kernel_rfl)
theorem impl_AtomValid_eq (a0 : V) (H : VH) : cv id_impl_AtomValid [a0] H =
 (vLenSV a0).bind fun x2 =>
 (vBinV (.int .i64) .geq x2 (.int .i64 1)).bind fun x3 =>
 ifGV x3 (
 (vLenSV (strip a0)).bind fun x6 =>
 (vBinV (.int .i64) .leq x6 (.int .i64 40)).bind fun x7 =>
 ifGV x7 (
 (qc id_impl_allBytes [(frz H (strip (strip a0))), (frz H (.fn id_impl_isAtomByte []))]).bind fun x11 =>
 some (x11, H)) (
 some ((.bool false), H))) (
 some ((.bool false), H)) := (callV_eq vb _ _ _ rfl).trans (by kernel_rfl)
noncomputable def impl_allBytes_l2 : List V -> VH -> Option (Option Nat × List V × VH) := roundV (vb.ctx cv lpW') (vb.b.ann 90) (vb.takes 90) ⟨⟨[0, 1, 7, 8], [], []⟩, [(.exit 0, ⟨[], [], []⟩), (.ret, ⟨[4], [], []⟩)]⟩ (loopIn Tryz.f90 2)
theorem impl_allBytes_l2_eq (v0 v1 v2 v3 : V) (H : VH) : impl_allBytes_l2 [v0, v1, v2, v3] H =
 (vBinV (.int .i64) .lss v3 v2).bind fun x4 =>
 ifVV x4 (
 (vIndexSV v0 v3).bind fun x10 =>
 (calleeV v1).bind fun p12 =>
 (qc p12.1 ((([x10] : List V) ++ p12.2).map (frz H))).bind fun x11 =>
 (vUnV .not x11).bind fun x13 =>
 ifVV x13 (
 some (some 1, [(.bool false)], H)) (
 (vBinV (.int .i64) .add (strip v3) (.int .i64 1)).bind fun x15 =>
 some (none, [(strip v0), (strip v1), v2, x15], H))) (
 some (some 0, [], H)) := by kernel_rfl
theorem impl_allBytes_eq (a0 a1 : V) (H : VH) : cv id_impl_allBytes [a0, a1] H =
 (vLenSV a0).bind fun x2 =>
 (lpW' impl_allBytes_l2 [(strip a0), a1, x2, (.int .i64 0)] H).bind fun r17 =>
 inN r17.1 [
 gotV 0 r17.2.1 fun v18 =>
 some ((.bool true), r17.2.2),
 gotV 1 r17.2.1 fun v20 =>
 some ((v20 0), r17.2.2)] := (callV_eq vb _ _ _ rfl).trans (by kernel_rfl)
theorem impl_isAtomByte_eq (a0 : V) (H : VH) : cv id_impl_isAtomByte [a0] H =
 (qc id_impl_isLetter [(frz H a0)]).bind fun x2 =>
 ifGV x2 (
 some ((.bool true), H)) (
 (qc id_impl_isDigit [(frz H (strip a0))]).bind fun x27 =>
 ifGV x27 (
 some ((.bool true), H)) (
 (vBinV (.int .u8) .eql (strip (strip a0)) (.int .u8 33)).bind fun x51 =>
 ifGV x51 (
 some ((.bool true), H)) (
 (vBinV (.int .u8) .geq (strip (strip (strip a0))) (.int .u8 35)).bind fun x73 =>
 ifGV x73 (
 (vBinV (.int .u8) .leq (strip (strip (strip (strip a0)))) (.int .u8 39)).bind fun x76 =>
 ifGV x76 (
 some ((.bool true), H)) (
 (vBinV (.int .u8) .eql (strip (strip (strip (strip (strip a0))))) (.int .u8 42)).bind fun x97 =>
 ifGV x97 (
 some ((.bool true), H)) (
 (vBinV (.int .u8) .eql (strip (strip (strip (strip (strip (strip a0)))))) (.int .u8 43)).bind fun x115 =>
 ifGV x115 (
 some ((.bool true), H)) (
 (vBinV (.int .u8) .eql (strip (strip (strip (strip (strip (strip (strip a0))))))) (.int .u8 45)).bind fun x131 =>
 ifGV x131 (
 some ((.bool true), H)) (
 (vBinV (.int .u8) .eql (strip (strip (strip (strip (strip (strip (strip (strip a0)))))))) (.int .u8 47)).bind fun x145 =>
 ifGV x145 (
 some ((.bool true), H)) (
 (vBinV (.int .u8) .eql (strip (strip (strip (strip (strip (strip (strip (strip (strip a0))))))))) (.int .u8 61)).bind fun x157 =>
 ifGV x157 (
 some ((.bool true), H)) (
 (vBinV (.int .u8) .eql (strip (strip (strip (strip (strip (strip (strip (strip (strip (strip a0)))))))))) (.int .u8 63)).bind fun x167 =>
 ifGV x167 (
 some ((.bool true), H)) (
 (vBinV (.int .u8) .geq (strip (strip (strip (strip (strip (strip (strip (strip (strip (strip (strip a0))))))))))) (.int .u8 94)).bind fun x175 =>
 ifGV x175 (
 (vBinV (.int .u8) .leq (strip (strip (strip (strip (strip (strip (strip (strip (strip (strip (strip (strip a0)))))))))))) (.int .u8 96)).bind fun x178 =>
 ifGV x178 (
 some ((.bool true), H)) (
 (vBinV (.int .u8) .geq (strip (strip (strip (strip (strip (strip (strip (strip (strip (strip (strip (strip (strip a0))))))))))))) (.int .u8 123)).bind fun x185 =>
 ifGV x185 (
 (vBinV (.int .u8) .leq (strip (strip (strip (strip (strip (strip (strip (strip (strip (strip (strip (strip (strip (strip a0)))))))))))))) (.int .u8 126)).bind fun x188 =>
 some (x188, H)) (
 some ((.bool false), H)))) (
 (vBinV (.int .u8) .geq (strip (strip (strip (strip (strip (strip (strip (strip (strip (strip (strip (strip a0)))))))))))) (.int .u8 123)).bind fun x199 =>
 ifGV x199 (
 (vBinV (.int .u8) .leq (strip (strip (strip (strip (strip (strip (strip (strip (strip (strip (strip (strip (strip a0))))))))))))) (.int .u8 126)).bind fun x202 =>
 some (x202, H)) (
 some ((.bool false), H))))))))))) (
 (vBinV (.int .u8) .eql (strip (strip (strip (strip a0)))) (.int .u8 42)).bind fun x213 =>
 ifGV x213 (
 some ((.bool true), H)) (
 (vBinV (.int .u8) .eql (strip (strip (strip (strip (strip a0))))) (.int .u8 43)).bind fun x231 =>
 ifGV x231 (
 some ((.bool true), H)) (
 (vBinV (.int .u8) .eql (strip (strip (strip (strip (strip (strip a0)))))) (.int .u8 45)).bind fun x247 =>
 ifGV x247 (
 some ((.bool true), H)) (
 (vBinV (.int .u8) .eql (strip (strip (strip (strip (strip (strip (strip a0))))))) (.int .u8 47)).bind fun x261 =>
 ifGV x261 (
 some ((.bool true), H)) (
 (vBinV (.int .u8) .eql (strip (strip (strip (strip (strip (strip (strip (strip a0)))))))) (.int .u8 61)).bind fun x273 =>
 ifGV x273 (
 some ((.bool true), H)) (
 (vBinV (.int .u8) .eql (strip (strip (strip (strip (strip (strip (strip (strip (strip a0))))))))) (.int .u8 63)).bind fun x283 =>
 ifGV x283 (
 some ((.bool true), H)) (
 (vBinV (.int .u8) .geq (strip (strip (strip (strip (strip (strip (strip (strip (strip (strip a0)))))))))) (.int .u8 94)).bind fun x291 =>
 ifGV x291 (
 (vBinV (.int .u8) .leq (strip (strip (strip (strip (strip (strip (strip (strip (strip (strip (strip a0))))))))))) (.int .u8 96)).bind fun x294 =>
 ifGV x294 (
 some ((.bool true), H)) (
 (vBinV (.int .u8) .geq (strip (strip (strip (strip (strip (strip (strip (strip (strip (strip (strip (strip a0)))))))))))) (.int .u8 123)).bind fun x301 =>
 ifGV x301 (
 (vBinV (.int .u8) .leq (strip (strip (strip (strip (strip (strip (strip (strip (strip (strip (strip (strip (strip a0))))))))))))) (.int .u8 126)).bind fun x304 =>
 some (x304, H)) (
 some ((.bool false), H)))) (
 (vBinV (.int .u8) .geq (strip (strip (strip (strip (strip (strip (strip (strip (strip (strip (strip a0))))))))))) (.int .u8 123)).bind fun x315 =>
 ifGV x315 (
 (vBinV (.int .u8) .leq (strip (strip (strip (strip (strip (strip (strip (strip (strip (strip (strip (strip a0)))))))))))) (.int .u8 126)).bind fun x318 =>
 some (x318, H)) (
 some ((.bool false), H))))))))))))) := (callV_eq vb _ _ _ rfl).trans (by kernel_rfl)
theorem impl_isLetter_eq (a0 : V) (H : VH) : cv id_impl_isLetter [a0] H =
 (vBinV (.int .u8) .geq a0 (.int .u8 97)).bind fun x2 =>
 ifGV x2 (
 (vBinV (.int .u8) .leq (strip a0) (.int .u8 122)).bind fun x5 =>
 ifGV x5 (
 some ((.bool true), H)) (
 (vBinV (.int .u8) .geq (strip (strip a0)) (.int .u8 65)).bind fun x11 =>
 ifGV x11 (
 (vBinV (.int .u8) .leq (strip (strip (strip a0))) (.int .u8 90)).bind fun x14 =>
 some (x14, H)) (
 some ((.bool false), H)))) (
 (vBinV (.int .u8) .geq (strip a0) (.int .u8 65)).bind fun x24 =>
 ifGV x24 (
 (vBinV (.int .u8) .leq (strip (strip a0)) (.int .u8 90)).bind fun x27 =>
 some (x27, H)) (
 some ((.bool false), H))) := (callV_eq vb _ _ _ rfl).trans (by kernel_rfl)
theorem impl_isDigit_eq (a0 : V) (H : VH) : cv id_impl_isDigit [a0] H =
 (vBinV (.int .u8) .geq a0 (.int .u8 48)).bind fun x2 =>
 ifGV x2 (
 (vBinV (.int .u8) .leq (strip a0) (.int .u8 57)).bind fun x5 =>
 some (x5, H)) (
 some ((.bool false), H)) := (callV_eq vb _ _ _ rfl).trans (by kernel_rfl)
theorem impl_isDomain_eq (a0 : V) (H : VH) : cv id_impl_isDomain [a0] H =
 (vLenSV a0).bind fun x2 =>
 (vBinV (.int .i64) .leq x2 (.int .i64 40)).bind fun x3 =>
 ifGV x3 (
 (pc id_strings_Split [(frz H (strip a0)), (frz H (.str [46]))]).bind fun x6 =>
 (qc id_slices_ContainsFunc___string_string_ [(frz H x6), (frz H (.fn id_impl_isDomain_1 []))]).bind fun x7 =>
 (vUnV .not x7).bind fun x8 =>
 some (x8, H)) (
 some ((.bool false), H)) := (callV_eq vb _ _ _ rfl).trans (by kernel_rfl)
theorem impl_isDomain_1_eq (a0 : V) (H : VH) : cv id_impl_isDomain_1 [a0] H =
 (qc id_impl_isLabel [(frz H a0)]).bind fun x2 =>
 (vUnV .not x2).bind fun x3 =>
 some (x3, H) := (callV_eq vb _ _ _ rfl).trans (by kernel_rfl)
theorem impl_isLabel_eq (a0 : V) (H : VH) : cv id_impl_isLabel [a0] H =
 (vBinV .str .neq a0 (.str [])).bind fun x2 =>
 ifGV x2 (
 (vIndexSV (strip a0) (.int .i64 0)).bind fun x5 =>
 (vBinV (.int .u8) .neq x5 (.int .u8 45)).bind fun x6 =>
 ifGV x6 (
 (vLenSV (strip (strip (strip a0)))).bind fun x11 =>
 (vBinV (.int .i64) .sub x11 (.int .i64 1)).bind fun x12 =>
 (vIndexSV (strip (strip a0)) x12).bind fun x13 =>
 (vBinV (.int .u8) .neq x13 (.int .u8 45)).bind fun x14 =>
 ifGV x14 (
 (qc id_impl_allBytes [(frz H (strip (strip (strip (strip a0))))), (frz H (.fn id_impl_isLabel_1 []))]).bind fun x18 =>
 some (x18, H)) (
 some ((.bool false), H))) (
 some ((.bool false), H))) (
 some ((.bool false), H)) := (callV_eq vb _ _ _ rfl).trans (by kernel_rfl)
theorem impl_isLabel_1_eq (a0 : V) (H : VH) : cv id_impl_isLabel_1 [a0] H =
 (vBinV (.int .u8) .geq a0 (.int .u8 97)).bind fun x2 =>
 ifGV x2 (
 (vBinV (.int .u8) .leq (strip a0) (.int .u8 122)).bind fun x5 =>
 ifGV x5 (
 some ((.bool true), H)) (
 (qc id_impl_isDigit [(frz H (strip (strip a0)))]).bind fun x13 =>
 ifGV x13 (
 some ((.bool true), H)) (
 (vBinV (.int .u8) .eql (strip (strip (strip a0))) (.int .u8 45)).bind fun x19 =>
 some (x19, H)))) (
 (qc id_impl_isDigit [(frz H (strip a0))]).bind fun x25 =>
 ifGV x25 (
 some ((.bool true), H)) (
 (vBinV (.int .u8) .eql (strip (strip a0)) (.int .u8 45)).bind fun x31 =>
 some (x31, H))) := (callV_eq vb _ _ _ rfl).trans (by kernel_rfl)
theorem impl_draftValid_1_eq (a0 : V) (H : VH) : cv id_impl_draftValid_1 [a0] H =
 (qc id_impl_isPath [(frz H a0)]).bind fun x2 =>
 (vUnV .not x2).bind fun x3 =>
 some (x3, H) := (callV_eq vb _ _ _ rfl).trans (by kernel_rfl)
theorem impl_areTexts_eq (a0 a1 : V) (H : VH) : cv id_impl_areTexts [a0, a1] H =
 (vLenVV (strip a0)).bind fun x2 =>
 (vBinV (.int .i64) .leq x2 a1).bind fun x4 =>
 ifGV x4 (
 (qc id_slices_ContainsFunc___string_string_ [(frz H (strip a0)), (frz H (.fn id_impl_areTexts_1 []))]).bind fun x7 =>
 (vUnV .not x7).bind fun x8 =>
 some (x8, H)) (
 some ((.bool false), H)) := (callV_eq vb _ _ _ rfl).trans (by kernel_rfl)
theorem impl_areTexts_1_eq (a0 : V) (H : VH) : cv id_impl_areTexts_1 [a0] H =
 (qc id_impl_TextValid [(frz H a0)]).bind fun x2 =>
 (vUnV .not x2).bind fun x3 =>
 some (x3, H) := (callV_eq vb _ _ _ rfl).trans (by kernel_rfl)
noncomputable def impl_TextValid_l2 : List V -> VH -> Option (Option Nat × List V × VH) := roundV (vb.ctx cv lpW') (vb.b.ann 50) (vb.takes 50) ⟨⟨[0, 5, 6], [], []⟩, [(.exit 0, ⟨[0], [], []⟩), (.ret, ⟨[2], [], []⟩)]⟩ (loopIn Tryz.f50 2)
theorem impl_TextValid_l2_eq (v0 v1 v2 : V) (H : VH) : impl_TextValid_l2 [v0, v1, v2] H =
 (vBinV (.int .i64) .lss v2 v1).bind fun x4 =>
 ifVV x4 (
 (vIndexSV v0 v2).bind fun x9 =>
 (vBinV (.int .u8) .lss x9 (.int .u8 32)).bind fun x10 =>
 ifGV x10 (
 some (some 1, [(.bool false)], H)) (
 (vIndexSV (strip v0) (strip v2)).bind fun x16 =>
 (vBinV (.int .u8) .gtr x16 (.int .u8 126)).bind fun x17 =>
 ifVV x17 (
 some (some 1, [(.bool false)], H)) (
 (vBinV (.int .i64) .add (strip v2) (.int .i64 1)).bind fun x20 =>
 some (none, [(strip (strip v0)), v1, x20], H)))) (
 some (some 0, [v0], H)) := by kernel_rfl
theorem impl_TextValid_eq (a0 : V) (H : VH) : cv id_impl_TextValid [a0] H =
 (vLenSV a0).bind fun x2 =>
 (lpW' impl_TextValid_l2 [(strip a0), x2, (.int .i64 0)] H).bind fun r22 =>
 inN r22.1 [
 gotV 1 r22.2.1 fun v23 =>
 (vLenSV (v23 0)).bind fun x25 =>
 (vBinV (.int .i64) .leq x25 (.int .i64 200)).bind fun x26 =>
 some (x26, r22.2.2),
 gotV 1 r22.2.1 fun v28 =>
 some ((v28 0), r22.2.2)] := (callV_eq vb _ _ _ rfl).trans (by kernel_rfl)
theorem impl_mailsValid_eq (a0 a1 : V) (H : VH) : cv id_impl_mailsValid [a0, a1] H =
 (vLenVV (strip a0)).bind fun x2 =>
 (vBinV (.int .i64) .leq x2 a1).bind fun x4 =>
 ifGV x4 (
 (qc id_slices_ContainsFunc___impl_Mail_impl_Mail_ [(frz H (strip a0)), (frz H (.fn id_impl_mailsValid_1 []))]).bind fun x7 =>
 (vUnV .not x7).bind fun x8 =>
 some (x8, H)) (
 some ((.bool false), H)) := (callV_eq vb _ _ _ rfl).trans (by kernel_rfl)
theorem slices_ContainsFunc___impl_Mail_impl_Mail__eq (a0 a1 : V) (H : VH) : cv id_slices_ContainsFunc___impl_Mail_impl_Mail_ [a0, a1] H =
 (qc id_slices_IndexFunc___impl_Mail_impl_Mail_ [(frz H (strip a0)), (frz H a1)]).bind fun x3 =>
 (vBinV (.int .i64) .geq x3 (.int .i64 0)).bind fun x4 =>
 some (x4, H) := (callV_eq vb _ _ _ rfl).trans (by kernel_rfl)
noncomputable def slices_IndexFunc___impl_Mail_impl_Mail__l2 : List V -> VH -> Option (Option Nat × List V × VH) := roundV (vb.ctx cv lpW') (vb.b.ann 88) (vb.takes 88) ⟨⟨[0, 1, 7, 8], [], []⟩, [(.exit 0, ⟨[], [], []⟩), (.ret, ⟨[4], [], []⟩)]⟩ (loopIn Tryz.f88 2)
theorem slices_IndexFunc___impl_Mail_impl_Mail__l2_eq (v0 v1 v2 v3 : V) (H : VH) : slices_IndexFunc___impl_Mail_impl_Mail__l2 [v0, v1, v2, v3] H =
 (vBinV (.int .i64) .lss v3 v2).bind fun x4 =>
 ifVV x4 (
 (vIdxV 3 (strip v0) v3).bind fun x10 =>
 (ldO globB false true 3 x10 H).bind fun r12 =>
 (calleeV v1).bind fun p14 =>
 (qc p14.1 ((([r12.1] : List V) ++ p14.2).map (frz r12.2))).bind fun x13 =>
 ifVV x13 (
 some (some 1, [(strip v3)], r12.2)) (
 (vBinV (.int .i64) .add (strip v3) (.int .i64 1)).bind fun x17 =>
 some (none, [v0, (strip v1), v2, x17], r12.2))) (
 some (some 0, [], H)) := by kernel_rfl
theorem slices_IndexFunc___impl_Mail_impl_Mail__eq (a0 a1 : V) (H : VH) : cv id_slices_IndexFunc___impl_Mail_impl_Mail_ [a0, a1] H =
 (vLenVV (strip a0)).bind fun x2 =>
 (lpW' slices_IndexFunc___impl_Mail_impl_Mail__l2 [a0, a1, x2, (.int .i64 0)] H).bind fun r19 =>
 inN r19.1 [
 gotV 0 r19.2.1 fun v20 =>
 some ((.int .i64 (-1)), r19.2.2),
 gotV 1 r19.2.1 fun v22 =>
 some ((v22 0), r19.2.2)] := (callV_eq vb _ _ _ rfl).trans (by kernel_rfl)
theorem impl_mailsValid_1_eq (a0 : V) (H : VH) : cv id_impl_mailsValid_1 [a0] H =
 (aggNV 3 a0).bind fun c1 =>
 (qc id_impl_MailValid [(frz H (.agg [(strip (c1.getD 0 .nilp)), (strip (c1.getD 1 .nilp)), (strip (c1.getD 2 .nilp))]))]).bind fun x4 =>
 (vUnV .not x4).bind fun x5 =>
 some (x5, H) := (callV_eq vb _ _ _ rfl).trans (by kernel_rfl)
theorem impl_MailValid_eq (a0 : V) (H : VH) : cv id_impl_MailValid [a0] H =
 (aggNV 3 a0).bind fun c1 =>
 (qc id_impl_draftValid [(frz H (.agg [(strip (c1.getD 0 .nilp)), (strip (c1.getD 1 .nilp)), (strip (c1.getD 2 .nilp))])), (frz H (.int .i64 1)), (frz H (.int .i64 30))]).bind fun x4 =>
 some (x4, H) := (callV_eq vb _ _ _ rfl).trans (by kernel_rfl)
theorem impl_copySession_eq (a0 : V) (H : VH) : cv id_impl_copySession [a0] H =
 (aggNV 6 a0).bind fun c1 =>
 (pc id_impl_copyMail [(frz H (.agg [(strip (c1.getD 2 .nilp)), (strip (c1.getD 3 .nilp)), (strip (c1.getD 4 .nilp))]))]).bind fun x9 =>
 (pc id_impl_copyMails [(frz H (strip (c1.getD 5 .nilp)))]).bind fun x12 =>
 (vOneV (strip (c1.getD 0 .nilp))).bind fun y14 =>
 (vOneV (strip (c1.getD 1 .nilp))).bind fun y15 =>
 (aggNV 3 x9).bind fun c16 =>
 (vOneV x12).bind fun y17 =>
 some ((.agg [y14, y15, (c16.getD 0 .nilp), (c16.getD 1 .nilp), (c16.getD 2 .nilp), y17]), H) := (callV_eq vb _ _ _ rfl).trans (by kernel_rfl)
theorem impl_copyMail_eq (a0 : V) (H : VH) : cv id_impl_copyMail [a0] H =
 (aggNV 3 a0).bind fun c1 =>
 (pc id_slices_Clone___string_string_ [(frz H (strip (c1.getD 1 .nilp)))]).bind fun x7 =>
 (pc id_slices_Clone___string_string_ [(frz H (strip (c1.getD 2 .nilp)))]).bind fun x10 =>
 (vOneV (strip (c1.getD 0 .nilp))).bind fun y12 =>
 (vOneV x7).bind fun y13 =>
 (vOneV x10).bind fun y14 =>
 some ((.agg [y12, y13, y14]), H) := (callV_eq vb _ _ _ rfl).trans (by kernel_rfl)
theorem slices_Clone___string_string__eq (a0 : V) (H : VH) : cv id_slices_Clone___string_string_ [a0] H =
 (vNilEqV .eql (strip a0)).bind fun x2 =>
 ifVV x2 (
 some ((.sl true []), H)) (
 (appV false 1 16 [] a0).bind fun x6 =>
 some (x6, H)) := (callV_eq vb _ _ _ rfl).trans (by kernel_rfl)
noncomputable def impl_copyMails_l3 : List V -> VH -> Option (Option Nat × List V × VH) := roundV (vb.ctx cv lpW') (vb.b.ann 49) (vb.takes 49) ⟨⟨[3, 7, 8, 9], [], []⟩, [(.exit 0, ⟨[3], [], []⟩)]⟩ (loopIn Tryz.f49 3)
theorem impl_copyMails_l3_eq (v0 v1 v2 v3 : V) (H : VH) : impl_copyMails_l3 [v0, v1, v2, v3] H =
 (vBinV (.int .i64) .lss v3 v2).bind fun x6 =>
 ifVV x6 (
 (vIdxV 3 v1 v3).bind fun x7 =>
 (ldO globB false true 3 x7 H).bind fun r9 =>
 (aggNV 3 r9.1).bind fun c12 =>
 (pc id_impl_copyMail [(frz r9.2 (.agg [(strip (c12.getD 0 .nilp)), (strip (c12.getD 1 .nilp)), (strip (c12.getD 2 .nilp))]))]).bind fun x15 =>
 (aggNV 3 x15).bind fun c17 =>
 (ownV v0).bind fun s19 =>
 (appV false 3 64 s19 (.sl true [[(c17.getD 0 .nilp), (c17.getD 1 .nilp), (c17.getD 2 .nilp)]])).bind fun x18 =>
 (vBinV (.int .i64) .add v3 (.int .i64 1)).bind fun x21 =>
 some (none, [x18, v1, v2, x21], r9.2)) (
 some (some 0, [v0], H)) := by kernel_rfl
theorem impl_copyMails_eq (a0 : V) (H : VH) : cv id_impl_copyMails [a0] H =
 (vLenVV (strip a0)).bind fun x4 =>
 (lpW' impl_copyMails_l3 [(.sl true []), (strip a0), x4, (.int .i64 0)] H).bind fun r23 =>
 inN r23.1 [
 gotV 1 r23.2.1 fun v24 =>
 some ((v24 0), r23.2.2)] := (callV_eq vb _ _ _ rfl).trans (by kernel_rfl)
theorem impl_Session_say_eq (a0 a1 : V) (H : VH) : cv id_impl_Session_say [a0, a1] H =
 (id (
 (vNilV a0).bind fun x3 =>
 (vOffV x3 0).bind fun x4 =>
 (ldO globB false false 1 x4 H).bind fun r6 =>
 (vBinV (.int .i64) .eql r6.1 (.int .i64 5)).bind fun x7 =>
 ifGV x7 (
 some (0, [(.int .i64 0), (.bool false)], r6.2)) (
 (qc id_impl_TextValid [(frz r6.2 a1)]).bind fun x14 =>
 (vUnV .not x14).bind fun x15 =>
 ifVV x15 (
 some (0, [(.int .i64 0), (.bool false)], r6.2)) (
 (vNilV (strip a0)).bind fun x21 =>
 (vOffV x21 0).bind fun x22 =>
 (ldO globB false false 1 x22 r6.2).bind fun r24 =>
 (vBinV (.int .i64) .eql r24.1 (.int .i64 4)).bind fun x25 =>
 ifVV x25 (
 (cv id_impl_Session_sayData [(strip (strip (strip a0))), (strip (strip a1))] r24.2).bind fun r30 =>
 some (0, [r30.1, (.bool true)], r30.2)) (
 some (1, [(strip (strip a0)), (strip a1)], r24.2)))) : Option (Nat × List V × VH))).bind fun r33 =>
 inN r33.1 [
 gotV 2 r33.2.1 fun v34 =>
 some ((.tup [(v34 0), (v34 1)]), r33.2.2),
 gotV 2 r33.2.1 fun v35 =>
 (cv id_impl_Session_sayCommand [(strip (v35 0)), (strip (v35 1))] r33.2.2).bind fun r39 =>
 some ((.tup [r39.1, (.bool true)]), r39.2)] := (callV_eq vb _ _ _ rfl).trans (by kernel_rfl)
theorem impl_Session_sayData_eq (a0 a1 : V) (H : VH) : cv id_impl_Session_sayData [a0, a1] H =
 (vBinV .str .neq a1 (.str [46])).bind fun x2 =>
 ifVV x2 (
 (vNilV a0).bind fun x4 =>
 (vOffV x4 2).bind fun x5 =>
 (vOffV x5 2).bind fun x6 =>
 (ldO globB false false 1 x6 H).bind fun r8 =>
 (vLenVV r8.1).bind fun x9 =>
 (vBinV (.int .i64) .leq x9 (.int .i64 30)).bind fun x10 =>
 ifVV x10 (
 (vNilV (strip (strip a0))).bind fun x13 =>
 (vOffV x13 2).bind fun x14 =>
 (vOffV x14 2).bind fun x15 =>
 (ldO globB true false 1 x15 r8.2).bind fun r17 =>
 (qc id_strings_TrimPrefix [(frz r17.2 (strip a1)), (frz r17.2 (.str [46]))]).bind fun x19 =>
 (vOneV x19).bind fun y21 =>
 (ownV r17.1).bind fun s23 =>
 (appV false 1 16 s23 (.sl true [[y21]])).bind fun x22 =>
 (vNilV (strip a0)).bind fun x24 =>
 (vOffV x24 2).bind fun x25 =>
 (vOffV x25 2).bind fun x26 =>
 (vOneV x22).bind fun y28 =>
 (stO x26 [y28] r17.2).bind fun H29 =>
 some ((.int .i64 0), H29)) (
 some ((.int .i64 0), r8.2))) (
 (vNilV a0).bind fun x33 =>
 (vOffV x33 2).bind fun x34 =>
 (ldO globB true true 3 x34 H).bind fun r36 =>
 (aggNV 3 r36.1).bind fun c39 =>
 (vNilV (strip a0)).bind fun x43 =>
 (vOffV x43 0).bind fun x44 =>
 (stO x44 [(.int .i64 1)] r36.2).bind fun H46 =>
 (vNilV (strip (strip a0))).bind fun x47 =>
 (vOffV x47 2).bind fun x48 =>
 (stO x48 [(.str []), (.sl true []), (.sl true [])] H46).bind fun H50 =>
 (vLenVV (strip (c39.getD 2 .nilp))).bind fun x53 =>
 (vBinV (.int .i64) .gtr x53 (.int .i64 30)).bind fun x54 =>
 ifVV x54 (
 some ((.int .i64 552), H50)) (
 (vNilV (strip (strip (strip a0)))).bind fun x58 =>
 (vOffV x58 5).bind fun x59 =>
 (ldO globB false false 1 x59 H50).bind fun r61 =>
 (vLenVV r61.1).bind fun x62 =>
 (vBinV (.int .i64) .eql x62 (.int .i64 5)).bind fun x63 =>
 ifVV x63 (
 some ((.int .i64 452), r61.2)) (
 (vNilV (strip (strip (strip (strip (strip a0)))))).bind fun x68 =>
 (vOffV x68 5).bind fun x69 =>
 (ldO globB true false 1 x69 r61.2).bind fun r71 =>
 (ownV r71.1).bind fun s75 =>
 (appV false 3 64 s75 (.sl true [[(c39.getD 0 .nilp), (c39.getD 1 .nilp), (c39.getD 2 .nilp)]])).bind fun x74 =>
 (vNilV (strip (strip (strip (strip a0))))).bind fun x76 =>
 (vOffV x76 5).bind fun x77 =>
 (vOneV x74).bind fun y79 =>
 (stO x77 [y79] r71.2).bind fun H80 =>
 some ((.int .i64 250), H80)))) := (callV_eq vb _ _ _ rfl).trans (by kernel_rfl)
theorem strings_TrimPrefix_eq (a0 a1 : V) (H : VH) : cv id_strings_TrimPrefix [a0, a1] H =
 (qc id_internal_stringslite_TrimPrefix [(frz H a0), (frz H a1)]).bind fun x3 =>
 some (x3, H) := (callV_eq vb _ _ _ rfl).trans (by kernel_rfl)
theorem internal_stringslite_TrimPrefix_eq (a0 a1 : V) (H : VH) : cv id_internal_stringslite_TrimPrefix [a0, a1] H =
 (qc id_internal_stringslite_HasPrefix [(frz H a0), (frz H a1)]).bind fun x3 =>
 ifVV x3 (
 (vLenSV (strip a1)).bind fun x6 =>
 (vSliceSV (strip a0) (some x6) none).bind fun x7 =>
 some (x7, H)) (
 some ((strip a0), H)) := (callV_eq vb _ _ _ rfl).trans (by kernel_rfl)
theorem internal_stringslite_HasPrefix_eq (a0 a1 : V) (H : VH) : cv id_internal_stringslite_HasPrefix [a0, a1] H =
 (vLenSV a0).bind fun x2 =>
 (vLenSV a1).bind fun x4 =>
 (vBinV (.int .i64) .geq x2 x4).bind fun x5 =>
 ifGV x5 (
 (vLenSV (strip a1)).bind fun x9 =>
 (vSliceSV (strip a0) none (some x9)).bind fun x10 =>
 (vBinV .str .eql x10 (strip (strip a1))).bind fun x12 =>
 some (x12, H)) (
 some ((.bool false), H)) := (callV_eq vb _ _ _ rfl).trans (by kernel_rfl)
theorem impl_Session_sayCommand_eq (a0 a1 : V) (H : VH) : cv id_impl_Session_sayCommand [a0, a1] H =
 (id (
 (qc id_impl_outside [(frz H (strip a1)), (frz H (.int .u8 32))]).bind fun x6 =>
 (vBinV (.int .i64) .geq x6 (.int .i64 0)).bind fun x9 =>
 ifVV x9 (
 (vSliceSV (strip (strip a1)) none (some (strip x6))).bind fun x12 =>
 (vBinV (.int .i64) .add (strip (strip x6)) (.int .i64 1)).bind fun x15 =>
 (vSliceSV (strip (strip (strip a1))) (some x15) none).bind fun x16 =>
 some (0, [a0, x12, x16, (.bool true)], H)) (
 some (0, [a0, a1, (.str []), (.bool false)], H)) : Option (Nat × List V × VH))).bind fun r20 =>
 inN r20.1 [
 gotV 4 r20.2.1 fun v21 =>
 (qc id_impl_LowerText [(frz r20.2.2 (v21 1))]).bind fun x23 =>
 (vBinV .str .eql x23 (.str [104, 101, 108, 111])).bind fun x26 =>
 ifVV x26 (
 (qc id_impl_LowerText [(frz r20.2.2 (v21 2))]).bind fun x29 =>
 (id (
 (vUnV .not (v21 3)).bind fun x32 =>
 ifGV x32 (
 some (0, [(.int .i64 501)], r20.2.2)) (
 (qc id_impl_isDomain [(frz r20.2.2 x29)]).bind fun x37 =>
 (vUnV .not x37).bind fun x38 =>
 ifVV x38 (
 some (0, [(.int .i64 501)], r20.2.2)) (
 some (1, [(v21 0), (strip x29)], r20.2.2))) : Option (Nat × List V × VH))).bind fun r41 =>
 inN r41.1 [
 gotV 1 r41.2.1 fun v42 =>
 some ((v42 0), r41.2.2),
 gotV 2 r41.2.1 fun v43 =>
 (vNilV (v43 0)).bind fun x49 =>
 (vOffV x49 1).bind fun x50 =>
 (vOneV (v43 1)).bind fun y52 =>
 (stO x50 [y52] r41.2.2).bind fun H53 =>
 (vNilV (strip (v43 0))).bind fun x54 =>
 (vOffV x54 0).bind fun x55 =>
 (stO x55 [(.int .i64 1)] H53).bind fun H57 =>
 (vNilV (strip (strip (v43 0)))).bind fun x58 =>
 (vOffV x58 2).bind fun x59 =>
 (stO x59 [(.str []), (.sl true []), (.sl true [])] H57).bind fun H61 =>
 some ((.int .i64 250), H61)]) (
 (vBinV .str .eql (strip x23) (.str [109, 97, 105, 108])).bind fun x64 =>
 ifVV x64 (
 (qc id_impl_pathIn [(frz r20.2.2 (v21 2)), (frz r20.2.2 (.str [70, 82, 79, 77, 58]))]).bind fun x67 =>
 (vExtV x67 0).bind fun x69 =>
 (vExtV x67 1).bind fun x70 =>
 (vUnV .not (strip x70)).bind fun x74 =>
 ifVV x74 (
 some ((.int .i64 501), r20.2.2)) (
 (vNilV (v21 0)).bind fun x78 =>
 (vOffV x78 0).bind fun x79 =>
 (ldO globB false false 1 x79 r20.2.2).bind fun r81 =>
 (vBinV (.int .i64) .neq r81.1 (.int .i64 1)).bind fun x82 =>
 ifVV x82 (
 some ((.int .i64 503), r81.2)) (
 (vOneV (strip x69)).bind fun y89 =>
 (vNilV (strip (v21 0))).bind fun x90 =>
 (vOffV x90 0).bind fun x91 =>
 (stO x91 [(.int .i64 2)] r81.2).bind fun H93 =>
 (vNilV (strip (strip (v21 0)))).bind fun x94 =>
 (vOffV x94 2).bind fun x95 =>
 (stO x95 [y89, (.sl true []), (.sl true [])] H93).bind fun H97 =>
 some ((.int .i64 250), H97)))) (
 (vBinV .str .eql (strip (strip x23)) (.str [114, 99, 112, 116])).bind fun x100 =>
 ifVV x100 (
 (qc id_impl_pathIn [(frz r20.2.2 (v21 2)), (frz r20.2.2 (.str [84, 79, 58]))]).bind fun x103 =>
 (vExtV x103 0).bind fun x105 =>
 (vExtV x103 1).bind fun x106 =>
 (id (
 (vUnV .not (strip x106)).bind fun x110 =>
 ifGV x110 (
 some (0, [(.int .i64 501)], r20.2.2)) (
 (vBinV .str .eql (strip x105) (.str [])).bind fun x116 =>
 ifVV x116 (
 some (0, [(.int .i64 501)], r20.2.2)) (
 (vNilV (v21 0)).bind fun x121 =>
 (vOffV x121 0).bind fun x122 =>
 (ldO globB false false 1 x122 r20.2.2).bind fun r124 =>
 (vBinV (.int .i64) .neq r124.1 (.int .i64 2)).bind fun x125 =>
 ifGV x125 (
 (vNilV (strip (v21 0))).bind fun x128 =>
 (vOffV x128 0).bind fun x129 =>
 (ldO globB false false 1 x129 r124.2).bind fun r131 =>
 (vBinV (.int .i64) .neq r131.1 (.int .i64 3)).bind fun x132 =>
 ifVV x132 (
 some (0, [(.int .i64 503)], r131.2)) (
 (vNilV (strip (strip (v21 0)))).bind fun x137 =>
 (vOffV x137 2).bind fun x138 =>
 (vOffV x138 1).bind fun x139 =>
 (ldO globB false false 1 x139 r131.2).bind fun r141 =>
 (vLenVV r141.1).bind fun x142 =>
 (vBinV (.int .i64) .eql x142 (.int .i64 10)).bind fun x143 =>
 ifVV x143 (
 some (0, [(.int .i64 452)], r141.2)) (
 some (1, [(strip (strip (strip (v21 0)))), (strip (strip x105))], r141.2)))) (
 (vNilV (strip (v21 0))).bind fun x149 =>
 (vOffV x149 2).bind fun x150 =>
 (vOffV x150 1).bind fun x151 =>
 (ldO globB false false 1 x151 r124.2).bind fun r153 =>
 (vLenVV r153.1).bind fun x154 =>
 (vBinV (.int .i64) .eql x154 (.int .i64 10)).bind fun x155 =>
 ifVV x155 (
 some (0, [(.int .i64 452)], r153.2)) (
 some (1, [(strip (strip (v21 0))), (strip (strip x105))], r153.2))))) : Option (Nat × List V × VH))).bind fun r158 =>
 inN r158.1 [
 gotV 1 r158.2.1 fun v159 =>
 some ((v159 0), r158.2.2),
 gotV 2 r158.2.1 fun v160 =>
 (vNilV (strip (strip (v160 0)))).bind fun x164 =>
 (vOffV x164 2).bind fun x165 =>
 (vOffV x165 1).bind fun x166 =>
 (ldO globB true false 1 x166 r158.2.2).bind fun r168 =>
 (vOneV (v160 1)).bind fun y171 =>
 (ownV r168.1).bind fun s173 =>
 (appV false 1 16 s173 (.sl true [[y171]])).bind fun x172 =>
 (vNilV (v160 0)).bind fun x174 =>
 (vOffV x174 0).bind fun x175 =>
 (stO x175 [(.int .i64 3)] r168.2).bind fun H177 =>
 (vNilV (strip (v160 0))).bind fun x178 =>
 (vOffV x178 2).bind fun x179 =>
 (vOffV x179 1).bind fun x180 =>
 (vOneV x172).bind fun y182 =>
 (stO x180 [y182] H177).bind fun H183 =>
 some ((.int .i64 250), H183)]) (
 ifVV (v21 3) (
 some ((.int .i64 500), r20.2.2)) (
 (vBinV .str .eql (strip (strip (strip x23))) (.str [100, 97, 116, 97])).bind fun x189 =>
 ifVV x189 (
 (vNilV (v21 0)).bind fun x192 =>
 (vOffV x192 0).bind fun x193 =>
 (ldO globB false false 1 x193 r20.2.2).bind fun r195 =>
 (vBinV (.int .i64) .neq r195.1 (.int .i64 3)).bind fun x196 =>
 ifVV x196 (
 some ((.int .i64 503), r195.2)) (
 (vNilV (strip (v21 0))).bind fun x199 =>
 (vOffV x199 0).bind fun x200 =>
 (stO x200 [(.int .i64 4)] r195.2).bind fun H202 =>
 some ((.int .i64 354), H202))) (
 (vBinV .str .eql (strip (strip (strip (strip x23)))) (.str [114, 115, 101, 116])).bind fun x205 =>
 ifVV x205 (
 (vNilV (v21 0)).bind fun x209 =>
 (vOffV x209 2).bind fun x210 =>
 (stO x210 [(.str []), (.sl true []), (.sl true [])] r20.2.2).bind fun H212 =>
 (vNilV (strip (v21 0))).bind fun x214 =>
 (vOffV x214 0).bind fun x215 =>
 (ldO globB false false 1 x215 H212).bind fun r217 =>
 (vBinV (.int .i64) .neq r217.1 (.int .i64 0)).bind fun x218 =>
 ifVV x218 (
 (vNilV (strip (strip (v21 0)))).bind fun x220 =>
 (vOffV x220 0).bind fun x221 =>
 (stO x221 [(.int .i64 1)] r217.2).bind fun H223 =>
 some ((.int .i64 250), H223)) (
 some ((.int .i64 250), r217.2))) (
 (vBinV .str .eql (strip (strip (strip (strip (strip x23))))) (.str [110, 111, 111, 112])).bind fun x227 =>
 ifVV x227 (
 some ((.int .i64 250), r20.2.2)) (
 (vBinV .str .eql (strip (strip (strip (strip (strip (strip x23)))))) (.str [113, 117, 105, 116])).bind fun x231 =>
 ifVV x231 (
 (vNilV (v21 0)).bind fun x236 =>
 (vOffV x236 0).bind fun x237 =>
 (stO x237 [(.int .i64 5)] r20.2.2).bind fun H239 =>
 (vNilV (strip (v21 0))).bind fun x240 =>
 (vOffV x240 2).bind fun x241 =>
 (stO x241 [(.str []), (.sl true []), (.sl true [])] H239).bind fun H243 =>
 some ((.int .i64 221), H243)) (
 some ((.int .i64 500), r20.2.2)))))))))] := (callV_eq vb _ _ _ rfl).trans (by kernel_rfl)
noncomputable def impl_outside_l2 : List V -> VH -> Option (Option Nat × List V × VH) := roundV (vb.ctx cv lpW') (vb.b.ann 76) (vb.takes 76) ⟨⟨[0, 1, 5], [], []⟩, [(.exit 0, ⟨[], [], []⟩), (.ret, ⟨[4], [], []⟩)]⟩ (loopIn Tryz.f76 2)
theorem impl_outside_l2_eq (v0 v1 v2 : V) (H : VH) : impl_outside_l2 [v0, v1, v2] H =
 (vLenSV v0).bind fun x4 =>
 (vBinV (.int .i64) .lss v2 x4).bind fun x5 =>
 ifVV x5 (
 (id (
 (vIndexSV (strip v0) (strip v2)).bind fun x8 =>
 (vBinV (.int .u8) .eql x8 (.int .u8 34)).bind fun x9 =>
 ifVV x9 (
 (vSliceSV (strip (strip v0)) (some (strip (strip v2))) none).bind fun x13 =>
 (qc id_impl_quoted [(frz H x13)]).bind fun x14 =>
 (vExtV x14 0).bind fun x16 =>
 (vExtV x14 1).bind fun x17 =>
 (vExtV x14 2).bind fun x18 =>
 (vUnV .not (strip x18)).bind fun x23 =>
 ifVV x23 (
 some (0, [(.int .i64 (-1))], H)) (
 (vBinV (.int .i64) .sub (strip x17) (.int .i64 1)).bind fun x27 =>
 (vBinV (.int .i64) .add (strip (strip (strip v2))) x27).bind fun x28 =>
 some (1, [(strip (strip (strip v0))), v1, x28], H))) (
 (vBinV (.int .u8) .eql x8 v1).bind fun x31 =>
 ifVV x31 (
 some (0, [(strip (strip v2))], H)) (
 some (1, [(strip (strip v0)), (strip v1), (strip (strip v2))], H))) : Option (Nat × List V × VH))).bind fun r35 =>
 inN r35.1 [
 gotV 1 r35.2.1 fun v36 =>
 some (some 1, [(v36 0)], r35.2.2),
 gotV 3 r35.2.1 fun v37 =>
 (vBinV (.int .i64) .add (v37 2) (.int .i64 1)).bind fun x39 =>
 some (none, [(v37 0), (v37 1), x39], r35.2.2)]) (
 some (some 0, [], H)) := by kernel_rfl
theorem impl_outside_eq (a0 a1 : V) (H : VH) : cv id_impl_outside [a0, a1] H =
 (lpW' impl_outside_l2 [a0, a1, (.int .i64 0)] H).bind fun r41 =>
 inN r41.1 [
 gotV 0 r41.2.1 fun v42 =>
 some ((.int .i64 (-1)), r41.2.2),
 gotV 1 r41.2.1 fun v44 =>
 some ((v44 0), r41.2.2)] := (callV_eq vb _ _ _ rfl).trans (by kernel_rfl)
noncomputable def impl_quoted_l3 : List V -> VH -> Option (Option Nat × List V × VH) := roundV (vb.ctx cv lpW') (vb.b.ann 94) (vb.takes 94) ⟨⟨[0, 5, 6], [], []⟩, [(.exit 0, ⟨[], [], []⟩), (.ret, ⟨[2, 3, 4], [], []⟩)]⟩ (loopIn Tryz.f94 3)
theorem impl_quoted_l3_eq (v0 v1 v2 : V) (H : VH) : impl_quoted_l3 [v0, v1, v2] H =
 (vLenSV v0).bind fun x8 =>
 (vBinV (.int .i64) .lss v2 x8).bind fun x9 =>
 ifVV x9 (
 (id (
 (id (
 (vIndexSV (strip v0) (strip v2)).bind fun x12 =>
 (vBinV (.int .u8) .eql x12 (.int .u8 34)).bind fun x13 =>
 ifVV x13 (
 (b2sV (strip v1) H).bind fun x16 =>
 (vBinV (.int .i64) .add (strip (strip v2)) (.int .i64 1)).bind fun x18 =>
 some (0, [x16, x18, (.bool true)], H)) (
 (vIndexSV (strip (strip v0)) (strip (strip v2))).bind fun x24 =>
 (vBinV (.int .u8) .eql x24 (.int .u8 92)).bind fun x25 =>
 ifVV x25 (
 (vBinV (.int .i64) .add (strip (strip (strip v2))) (.int .i64 1)).bind fun x28 =>
 (vLenSV (strip (strip (strip v0)))).bind fun x32 =>
 (vBinV (.int .i64) .eql x28 x32).bind fun x33 =>
 ifVV x33 (
 some (0, [(.str []), (.int .i64 0), (.bool false)], H)) (
 some (1, [(strip (strip (strip (strip v0)))), v1, (strip x28)], H))) (
 some (1, [(strip (strip (strip v0))), v1, (strip (strip (strip v2)))], H))) : Option (Nat × List V × VH))).bind fun r37 =>
 inN r37.1 [
 gotV 3 r37.2.1 fun v38 =>
 some (0, [(v38 0), (v38 1), (v38 2)], r37.2.2),
 gotV 3 r37.2.1 fun v39 =>
 (vIndexSV (v39 0) (v39 2)).bind fun x43 =>
 (vOneV x43).bind fun y45 =>
 (ownV (v39 1)).bind fun s47 =>
 (appV false 1 1 s47 (.sl true [[y45]])).bind fun x46 =>
 some (1, [(strip (v39 0)), x46, (strip (v39 2))], r37.2.2)] : Option (Nat × List V × VH))).bind fun r49 =>
 inN r49.1 [
 gotV 3 r49.2.1 fun v50 =>
 some (some 1, [(v50 0), (v50 1), (v50 2)], r49.2.2),
 gotV 3 r49.2.1 fun v51 =>
 (vBinV (.int .i64) .add (v51 2) (.int .i64 1)).bind fun x53 =>
 some (none, [(v51 0), (v51 1), x53], r49.2.2)]) (
 some (some 0, [], H)) := by kernel_rfl
theorem impl_quoted_eq (a0 : V) (H : VH) : cv id_impl_quoted [a0] H =
 (lpW' impl_quoted_l3 [a0, (.sl true []), (.int .i64 1)] H).bind fun r55 =>
 inN r55.1 [
 gotV 0 r55.2.1 fun v56 =>
 some ((.tup [(.str []), (.int .i64 0), (.bool false)]), r55.2.2),
 gotV 3 r55.2.1 fun v60 =>
 some ((.tup [(v60 0), (v60 1), (v60 2)]), r55.2.2)] := (callV_eq vb _ _ _ rfl).trans (by kernel_rfl)
noncomputable def impl_LowerText_l3 : List V -> VH -> Option (Option Nat × List V × VH) := roundV (vb.ctx cv lpW') (vb.b.ann 77) (vb.takes 77) ⟨⟨[3, 8, 9, 10], [], []⟩, [(.exit 0, ⟨[3], [], []⟩)]⟩ (loopIn Tryz.f77 3)
theorem impl_LowerText_l3_eq (v0 v1 v2 v3 : V) (H : VH) : impl_LowerText_l3 [v0, v1, v2, v3] H =
 (vBinV (.int .i64) .lss v3 v2).bind fun x7 =>
 ifVV x7 (
 (vIdxV 1 v1 (strip v3)).bind fun x9 =>
 (ldO globB false false 1 x9 H).bind fun r11 =>
 (vBinV (.int .u8) .geq r11.1 (.int .u8 65)).bind fun x15 =>
 ifGV x15 (
 (vBinV (.int .u8) .leq (strip r11.1) (.int .u8 90)).bind fun x18 =>
 ifVV x18 (
 (vIdxV 1 (strip v0) v3).bind fun x22 =>
 (ldO globB false false 1 x22 r11.2).bind fun r24 =>
 (vBinV (.int .u8) .add r24.1 (.int .u8 32)).bind fun x25 =>
 (vIdxV 1 (strip v0) v3).bind fun x26 =>
 (vOneV x25).bind fun y28 =>
 (stO x26 [y28] r24.2).bind fun H29 =>
 (vBinV (.int .i64) .add (strip v3) (.int .i64 1)).bind fun x30 =>
 some (none, [v0, v1, v2, x30], H29)) (
 (vBinV (.int .i64) .add (strip v3) (.int .i64 1)).bind fun x32 =>
 some (none, [v0, v1, v2, x32], r11.2))) (
 (vBinV (.int .i64) .add (strip v3) (.int .i64 1)).bind fun x35 =>
 some (none, [v0, v1, v2, x35], r11.2))) (
 some (some 0, [v0], H)) := by kernel_rfl
theorem impl_LowerText_eq (a0 : V) (H : VH) : cv id_impl_LowerText [a0] H =
 (s2bV a0).bind fun x2 =>
 (vLenVV (.obs H.length 0 x2.length 1)).bind fun x5 =>
 (lpW' impl_LowerText_l3 [(.obs H.length 0 x2.length 1), (.obs H.length 0 x2.length 1), x5, (.int .i64 0)] (H ++ [x2])).bind fun r37 =>
 inN r37.1 [
 gotV 1 r37.2.1 fun v38 =>
 (b2sV (strip (v38 0)) r37.2.2).bind fun x40 =>
 some (x40, r37.2.2)] := (callV_eq vb _ _ _ rfl).trans (by kernel_rfl)
theorem impl_pathIn_eq (a0 a1 : V) (H : VH) : cv id_impl_pathIn [a0, a1] H =
 (id (
 (vLenSV a0).bind fun x3 =>
 (vLenSV a1).bind fun x5 =>
 (vBinV (.int .i64) .lss x3 x5).bind fun x6 =>
 ifGV x6 (
 some (0, [(.str []), (.bool false)], H)) (
 (vLenSV (strip a1)).bind fun x13 =>
 (vSliceSV (strip a0) none (some x13)).bind fun x14 =>
 (qc id_impl_SameText [(frz H x14), (frz H (strip (strip a1)))]).bind fun x16 =>
 (vUnV .not x16).bind fun x17 =>
 ifVV x17 (
 some (0, [(.str []), (.bool false)], H)) (
 some (1, [(strip (strip a0)), (strip (strip (strip a1)))], H))) : Option (Nat × List V × VH))).bind fun r21 =>
 inN r21.1 [
 gotV 2 r21.2.1 fun v22 =>
 some ((.tup [(v22 0), (v22 1)]), r21.2.2),
 gotV 2 r21.2.1 fun v23 =>
 (vLenSV (v23 1)).bind fun x26 =>
 (vSliceSV (v23 0) (some x26) none).bind fun x27 =>
 (qc id_strings_CutSuffix [(frz r21.2.2 x27), (frz r21.2.2 (.str [62]))]).bind fun x28 =>
 (vExtV x28 0).bind fun x30 =>
 (vExtV x28 1).bind fun x31 =>
 (qc id_strings_CutPrefix [(frz r21.2.2 (strip x30)), (frz r21.2.2 (.str [60]))]).bind fun x35 =>
 (vExtV x35 0).bind fun x37 =>
 (vExtV x35 1).bind fun x38 =>
 (id (
 (vUnV .not (strip x31)).bind fun x42 =>
 ifGV x42 (
 some (0, [(.str []), (.bool false)], r21.2.2)) (
 (vUnV .not (strip x38)).bind fun x48 =>
 ifVV x48 (
 some (0, [(.str []), (.bool false)], r21.2.2)) (
 some (1, [(strip x37)], r21.2.2))) : Option (Nat × List V × VH))).bind fun r52 =>
 inN r52.1 [
 gotV 2 r52.2.1 fun v53 =>
 some ((.tup [(v53 0), (v53 1)]), r52.2.2),
 gotV 1 r52.2.1 fun v54 =>
 (qc id_strings_Cut [(frz r52.2.2 (v54 0)), (frz r52.2.2 (.str [64]))]).bind fun x56 =>
 (vExtV x56 0).bind fun x58 =>
 (vExtV x56 1).bind fun x59 =>
 (vExtV x56 2).bind fun x60 =>
 (id (
 ifVV (strip x60) (
 (vBinV .str .add (strip x58) (.str [64])).bind fun x66 =>
 (qc id_impl_LowerText [(frz r52.2.2 (strip x59))]).bind fun x68 =>
 (vBinV .str .add x66 x68).bind fun x69 =>
 some (0, [x69], r52.2.2)) (
 some (0, [(strip (v54 0))], r52.2.2)) : Option (Nat × List V × VH))).bind fun r71 =>
 inN r71.1 [
 gotV 1 r71.2.1 fun v72 =>
 (qc id_impl_isFrom [(frz r71.2.2 (strip (v72 0)))]).bind fun x75 =>
 some ((.tup [(v72 0), x75]), r71.2.2)]]] := (callV_eq vb _ _ _ rfl).trans (by kernel_rfl)
theorem impl_SameText_eq (a0 a1 : V) (H : VH) : cv id_impl_SameText [a0, a1] H =
 (qc id_impl_LowerText [(frz H a0)]).bind fun x2 =>
 (qc id_impl_LowerText [(frz H a1)]).bind fun x4 =>
 (vBinV .str .eql x2 x4).bind fun x5 =>
 some (x5, H) := (callV_eq vb _ _ _ rfl).trans (by kernel_rfl)
theorem strings_CutSuffix_eq (a0 a1 : V) (H : VH) : cv id_strings_CutSuffix [a0, a1] H =
 (qc id_internal_stringslite_CutSuffix [(frz H a0), (frz H a1)]).bind fun x4 =>
 (vExtV x4 0).bind fun x5 =>
 (vExtV x4 1).bind fun x6 =>
 some ((.tup [(strip x5), (strip x6)]), H) := (callV_eq vb _ _ _ rfl).trans (by kernel_rfl)
theorem internal_stringslite_CutSuffix_eq (a0 a1 : V) (H : VH) : cv id_internal_stringslite_CutSuffix [a0, a1] H =
 (qc id_internal_stringslite_HasSuffix [(frz H a0), (frz H a1)]).bind fun x4 =>
 (vUnV .not x4).bind fun x5 =>
 ifVV x5 (
 some ((.tup [(strip a0), (.bool false)]), H)) (
 (vLenSV (strip (strip a0))).bind fun x11 =>
 (vLenSV (strip a1)).bind fun x13 =>
 (vBinV (.int .i64) .sub x11 x13).bind fun x14 =>
 (vSliceSV (strip a0) none (some x14)).bind fun x15 =>
 some ((.tup [x15, (.bool true)]), H)) := (callV_eq vb _ _ _ rfl).trans (by kernel_rfl)
theorem internal_stringslite_HasSuffix_eq (a0 a1 : V) (H : VH) : cv id_internal_stringslite_HasSuffix [a0, a1] H =
 (vLenSV a0).bind fun x2 =>
 (vLenSV a1).bind fun x4 =>
 (vBinV (.int .i64) .geq x2 x4).bind fun x5 =>
 ifGV x5 (
 (vLenSV (strip (strip a0))).bind fun x9 =>
 (vLenSV (strip a1)).bind fun x11 =>
 (vBinV (.int .i64) .sub x9 x11).bind fun x12 =>
 (vSliceSV (strip a0) (some x12) none).bind fun x13 =>
 (vBinV .str .eql x13 (strip (strip a1))).bind fun x15 =>
 some (x15, H)) (
 some ((.bool false), H)) := (callV_eq vb _ _ _ rfl).trans (by kernel_rfl)
theorem strings_CutPrefix_eq (a0 a1 : V) (H : VH) : cv id_strings_CutPrefix [a0, a1] H =
 (qc id_internal_stringslite_CutPrefix [(frz H a0), (frz H a1)]).bind fun x4 =>
 (vExtV x4 0).bind fun x5 =>
 (vExtV x4 1).bind fun x6 =>
 some ((.tup [(strip x5), (strip x6)]), H) := (callV_eq vb _ _ _ rfl).trans (by kernel_rfl)
theorem internal_stringslite_CutPrefix_eq (a0 a1 : V) (H : VH) : cv id_internal_stringslite_CutPrefix [a0, a1] H =
 (qc id_internal_stringslite_HasPrefix [(frz H a0), (frz H a1)]).bind fun x4 =>
 (vUnV .not x4).bind fun x5 =>
 ifVV x5 (
 some ((.tup [(strip a0), (.bool false)]), H)) (
 (vLenSV (strip a1)).bind fun x11 =>
 (vSliceSV (strip a0) (some x11) none).bind fun x12 =>
 some ((.tup [x12, (.bool true)]), H)) := (callV_eq vb _ _ _ rfl).trans (by kernel_rfl)
theorem laws_eqSession_eq (a0 a1 : V) (H : VH) : cv id_laws_eqSession [a0, a1] H =
 (aggNV 6 a0).bind fun c1 =>
 (aggNV 6 a1).bind fun c3 =>
 (vBinV (.int .i64) .neq (strip (c1.getD 0 .nilp)) (strip (c3.getD 0 .nilp))).bind fun x9 =>
 ifVV x9 (
 some ((.bool false), H)) (
 (vBinV .str .neq (strip (c1.getD 1 .nilp)) (strip (c3.getD 1 .nilp))).bind fun x15 =>
 ifVV x15 (
 some ((.bool false), H)) (
 (qc id_laws_eqMail [(frz H (.agg [(strip (c1.getD 2 .nilp)), (strip (c1.getD 3 .nilp)), (strip (c1.getD 4 .nilp))])), (frz H (.agg [(strip (c3.getD 2 .nilp)), (strip (c3.getD 3 .nilp)), (strip (c3.getD 4 .nilp))]))]).bind fun x21 =>
 (vUnV .not x21).bind fun x22 =>
 ifVV x22 (
 some ((.bool false), H)) (
 (qc id_laws_eqMailS [(frz H (strip (c1.getD 5 .nilp))), (frz H (strip (c3.getD 5 .nilp)))]).bind fun x28 =>
 (vUnV .not x28).bind fun x29 =>
 ifVV x29 (
 some ((.bool false), H)) (
 some ((.bool true), H))))) := (callV_eq vb _ _ _ rfl).trans (by kernel_rfl)
theorem laws_eqMail_eq (a0 a1 : V) (H : VH) : cv id_laws_eqMail [a0, a1] H =
 (aggNV 3 a0).bind fun c1 =>
 (aggNV 3 a1).bind fun c3 =>
 (vBinV .str .neq (strip (c1.getD 0 .nilp)) (strip (c3.getD 0 .nilp))).bind fun x9 =>
 ifVV x9 (
 some ((.bool false), H)) (
 (qc id_laws_eqStringS [(frz H (strip (c1.getD 1 .nilp))), (frz H (strip (c3.getD 1 .nilp)))]).bind fun x15 =>
 (vUnV .not x15).bind fun x16 =>
 ifVV x16 (
 some ((.bool false), H)) (
 (qc id_laws_eqStringS [(frz H (strip (c1.getD 2 .nilp))), (frz H (strip (c3.getD 2 .nilp)))]).bind fun x22 =>
 (vUnV .not x22).bind fun x23 =>
 ifVV x23 (
 some ((.bool false), H)) (
 some ((.bool true), H)))) := (callV_eq vb _ _ _ rfl).trans (by kernel_rfl)
noncomputable def laws_eqStringS_l4 : List V -> VH -> Option (Option Nat × List V × VH) := roundV (vb.ctx cv lpW') (vb.b.ann 17) (vb.takes 17) ⟨⟨[0, 1, 5], [], []⟩, [(.exit 0, ⟨[], [], []⟩), (.ret, ⟨[4], [], []⟩)]⟩ (loopIn Tryz.f17 4)
theorem laws_eqStringS_l4_eq (v0 v1 v2 : V) (H : VH) : laws_eqStringS_l4 [v0, v1, v2] H =
 (vLenVV (strip v0)).bind fun x10 =>
 (vBinV (.int .i64) .lss v2 x10).bind fun x11 =>
 ifVV x11 (
 (vIdxV 1 (strip v0) (strip v2)).bind fun x14 =>
 (ldO globB false false 1 x14 H).bind fun r16 =>
 (vIdxV 1 (strip v1) (strip (strip v2))).bind fun x19 =>
 (ldO globB false false 1 x19 r16.2).bind fun r21 =>
 (vBinV .str .neq r16.1 r21.1).bind fun x22 =>
 ifVV x22 (
 some (some 1, [(.bool false)], r21.2)) (
 (vBinV (.int .i64) .add (strip (strip (strip v2))) (.int .i64 1)).bind fun x25 =>
 some (none, [v0, v1, x25], r21.2))) (
 some (some 0, [], H)) := by kernel_rfl
theorem laws_eqStringS_eq (a0 a1 : V) (H : VH) : cv id_laws_eqStringS [a0, a1] H =
 (vLenVV (strip a0)).bind fun x2 =>
 (vLenVV (strip a1)).bind fun x4 =>
 (vBinV (.int .i64) .neq x2 x4).bind fun x5 =>
 ifVV x5 (
 some ((.bool false), H)) (
 (lpW' laws_eqStringS_l4 [a0, a1, (.int .i64 0)] H).bind fun r27 =>
 inN r27.1 [
 gotV 0 r27.2.1 fun v28 =>
 some ((.bool true), r27.2.2),
 gotV 1 r27.2.1 fun v30 =>
 some ((v30 0), r27.2.2)]) := (callV_eq vb _ _ _ rfl).trans (by kernel_rfl)
noncomputable def laws_eqMailS_l4 : List V -> VH -> Option (Option Nat × List V × VH) := roundV (vb.ctx cv lpW') (vb.b.ann 31) (vb.takes 31) ⟨⟨[0, 1, 5], [], []⟩, [(.exit 0, ⟨[], [], []⟩), (.ret, ⟨[4], [], []⟩)]⟩ (loopIn Tryz.f31 4)
theorem laws_eqMailS_l4_eq (v0 v1 v2 : V) (H : VH) : laws_eqMailS_l4 [v0, v1, v2] H =
 (vLenVV (strip v0)).bind fun x10 =>
 (vBinV (.int .i64) .lss v2 x10).bind fun x11 =>
 ifVV x11 (
 (vIdxV 3 (strip v0) (strip v2)).bind fun x14 =>
 (ldO globB false true 3 x14 H).bind fun r16 =>
 (vIdxV 3 (strip v1) (strip (strip v2))).bind fun x19 =>
 (ldO globB false true 3 x19 r16.2).bind fun r21 =>
 (qc id_laws_eqMail [(frz r21.2 r16.1), (frz r21.2 r21.1)]).bind fun x22 =>
 (vUnV .not x22).bind fun x23 =>
 ifVV x23 (
 some (some 1, [(.bool false)], r21.2)) (
 (vBinV (.int .i64) .add (strip (strip (strip v2))) (.int .i64 1)).bind fun x26 =>
 some (none, [v0, v1, x26], r21.2))) (
 some (some 0, [], H)) := by kernel_rfl
theorem laws_eqMailS_eq (a0 a1 : V) (H : VH) : cv id_laws_eqMailS [a0, a1] H =
 (vLenVV (strip a0)).bind fun x2 =>
 (vLenVV (strip a1)).bind fun x4 =>
 (vBinV (.int .i64) .neq x2 x4).bind fun x5 =>
 ifVV x5 (
 some ((.bool false), H)) (
 (lpW' laws_eqMailS_l4 [a0, a1, (.int .i64 0)] H).bind fun r28 =>
 inN r28.1 [
 gotV 0 r28.2.1 fun v29 =>
 some ((.bool true), r28.2.2),
 gotV 1 r28.2.1 fun v31 =>
 some ((v31 0), r28.2.2)]) := (callV_eq vb _ _ _ rfl).trans (by kernel_rfl)
noncomputable def laws_eqIntS_l4 : List V -> VH -> Option (Option Nat × List V × VH) := roundV (vb.ctx cv lpW') (vb.b.ann 16) (vb.takes 16) ⟨⟨[0, 1, 5], [], []⟩, [(.exit 0, ⟨[], [], []⟩), (.ret, ⟨[4], [], []⟩)]⟩ (loopIn Tryz.f16 4)
theorem laws_eqIntS_l4_eq (v0 v1 v2 : V) (H : VH) : laws_eqIntS_l4 [v0, v1, v2] H =
 (vLenVV (strip v0)).bind fun x10 =>
 (vBinV (.int .i64) .lss v2 x10).bind fun x11 =>
 ifVV x11 (
 (vIdxV 1 (strip v0) (strip v2)).bind fun x14 =>
 (ldO globB false false 1 x14 H).bind fun r16 =>
 (vIdxV 1 (strip v1) (strip (strip v2))).bind fun x19 =>
 (ldO globB false false 1 x19 r16.2).bind fun r21 =>
 (vBinV (.int .i64) .neq r16.1 r21.1).bind fun x22 =>
 ifVV x22 (
 some (some 1, [(.bool false)], r21.2)) (
 (vBinV (.int .i64) .add (strip (strip (strip v2))) (.int .i64 1)).bind fun x25 =>
 some (none, [v0, v1, x25], r21.2))) (
 some (some 0, [], H)) := by kernel_rfl
theorem laws_eqIntS_eq (a0 a1 : V) (H : VH) : cv id_laws_eqIntS [a0, a1] H =
 (vLenVV (strip a0)).bind fun x2 =>
 (vLenVV (strip a1)).bind fun x4 =>
 (vBinV (.int .i64) .neq x2 x4).bind fun x5 =>
 ifVV x5 (
 some ((.bool false), H)) (
 (lpW' laws_eqIntS_l4 [a0, a1, (.int .i64 0)] H).bind fun r27 =>
 inN r27.1 [
 gotV 0 r27.2.1 fun v28 =>
 some ((.bool true), r27.2.2),
 gotV 1 r27.2.1 fun v30 =>
 some ((v30 0), r27.2.2)]) := (callV_eq vb _ _ _ rfl).trans (by kernel_rfl)
theorem laws_markSession_eq (a0 a1 : V) (H : VH) : cv id_laws_markSession [a0, a1] H =
 (aggNV 6 a0).bind fun c1 =>
 (cv id_laws_markMail [(.agg [(strip (strip (c1.getD 2 .nilp))), (strip (strip (c1.getD 3 .nilp))), (strip (strip (c1.getD 4 .nilp)))]), (strip a1)] H).bind fun r7 =>
 (cv id_laws_markMailS [(strip (strip (c1.getD 5 .nilp))), (strip r7.1)] r7.2).bind fun r13 =>
 some (r13.1, r13.2) := (callV_eq vb _ _ _ rfl).trans (by kernel_rfl)
theorem laws_markMail_eq (a0 a1 : V) (H : VH) : cv id_laws_markMail [a0, a1] H =
 (aggNV 3 a0).bind fun c1 =>
 (cv id_laws_markStringS [(strip (strip (c1.getD 1 .nilp))), (strip a1)] H).bind fun r7 =>
 (cv id_laws_markStringS [(strip (strip (c1.getD 2 .nilp))), (strip r7.1)] r7.2).bind fun r13 =>
 some (r13.1, r13.2) := (callV_eq vb _ _ _ rfl).trans (by kernel_rfl)
noncomputable def laws_markStringS_l2 : List V -> VH -> Option (Option Nat × List V × VH) := roundV (vb.ctx cv lpW') (vb.b.ann 18) (vb.takes 18) ⟨⟨[0, 1, 5], [], []⟩, [(.exit 0, ⟨[1], [], []⟩)]⟩ (loopIn Tryz.f18 2)
theorem laws_markStringS_l2_eq (v0 v1 v2 : V) (H : VH) : laws_markStringS_l2 [v0, v1, v2] H =
 (vLenVV (strip v0)).bind fun x4 =>
 (vBinV (.int .i64) .lss v2 x4).bind fun x5 =>
 ifVV x5 (
 (qc id_laws_markText [(frz H v1)]).bind fun x9 =>
 (vIdxV 1 (strip v0) (strip v2)).bind fun x10 =>
 (vOneV x9).bind fun y12 =>
 (stO x10 [y12] H).bind fun H13 =>
 (vBinV (.int .i64) .add (strip v1) (.int .i64 1)).bind fun x15 =>
 (vBinV (.int .i64) .add (strip (strip v2)) (.int .i64 1)).bind fun x18 =>
 some (none, [v0, x15, x18], H13)) (
 some (some 0, [v1], H)) := by kernel_rfl
theorem laws_markStringS_eq (a0 a1 : V) (H : VH) : cv id_laws_markStringS [a0, a1] H =
 (lpW' laws_markStringS_l2 [a0, a1, (.int .i64 0)] H).bind fun r20 =>
 inN r20.1 [
 gotV 1 r20.2.1 fun v21 =>
 some ((v21 0), r20.2.2)] := (callV_eq vb _ _ _ rfl).trans (by kernel_rfl)
noncomputable def laws_markText_l4 : List V -> VH -> Option (Option Nat × List V × VH) := roundV (vb.ctx cv lpW') (vb.b.ann 37) (vb.takes 37) ⟨⟨[0, 3], [], []⟩, [(.exit 0, ⟨[3], [], []⟩)]⟩ (loopIn Tryz.f37 4)
theorem laws_markText_l4_eq (v0 v1 : V) (H : VH) : laws_markText_l4 [v0, v1] H =
 (vBinV (.int .i64) .gtr v0 (.int .i64 0)).bind fun x6 =>
 ifVV x6 (
 (vBinV (.int .i64) .rem (strip v0) (.int .i64 10)).bind fun x8 =>
 (vBinV (.int .i64) .add (.int .i64 48) x8).bind fun x9 =>
 (vConvV .u8 x9).bind fun x10 =>
 (vOneV x10).bind fun y12 =>
 (b2sV (.sl true [[y12]]) H).bind fun x13 =>
 (vBinV .str .add x13 v1).bind fun x15 =>
 (vBinV (.int .i64) .quo (strip (strip v0)) (.int .i64 10)).bind fun x18 =>
 some (none, [x18, x15], H)) (
 some (some 0, [v1], H)) := by kernel_rfl
theorem laws_markText_eq (a0 : V) (H : VH) : cv id_laws_markText [a0] H =
 (vBinV (.int .i64) .leq a0 (.int .i64 0)).bind fun x2 =>
 ifVV x2 (
 some ((.str [109, 48]), H)) (
 (lpW' laws_markText_l4 [(strip a0), (.str [])] H).bind fun r20 =>
 inN r20.1 [
 gotV 1 r20.2.1 fun v21 =>
 (vBinV .str .add (.str [109]) (v21 0)).bind fun x23 =>
 some (x23, r20.2.2)]) := (callV_eq vb _ _ _ rfl).trans (by kernel_rfl)
noncomputable def laws_markMailS_l2 : List V -> VH -> Option (Option Nat × List V × VH) := roundV (vb.ctx cv lpW') (vb.b.ann 33) (vb.takes 33) ⟨⟨[0, 1, 5], [], []⟩, [(.exit 0, ⟨[1], [], []⟩)]⟩ (loopIn Tryz.f33 2)
theorem laws_markMailS_l2_eq (v0 v1 v2 : V) (H : VH) : laws_markMailS_l2 [v0, v1, v2] H =
 (vLenVV (strip v0)).bind fun x4 =>
 (vBinV (.int .i64) .lss v2 x4).bind fun x5 =>
 ifVV x5 (
 (qc id_laws_markText [(frz H v1)]).bind fun x9 =>
 (vIdxV 3 (strip v0) (strip v2)).bind fun x10 =>
 (vOffV x10 0).bind fun x11 =>
 (vOneV x9).bind fun y13 =>
 (stO x11 [y13] H).bind fun H14 =>
 (vBinV (.int .i64) .add (strip v1) (.int .i64 1)).bind fun x16 =>
 (vIdxV 3 (strip v0) (strip (strip v2))).bind fun x20 =>
 (vOffV x20 1).bind fun x21 =>
 (ldO globB false false 1 x21 H14).bind fun r23 =>
 (cv id_laws_markStringS [(strip r23.1), (strip x16)] r23.2).bind fun r26 =>
 (vIdxV 3 (strip v0) (strip (strip (strip v2)))).bind fun x30 =>
 (vOffV x30 2).bind fun x31 =>
 (ldO globB false false 1 x31 r26.2).bind fun r33 =>
 (cv id_laws_markStringS [(strip r33.1), (strip r26.1)] r33.2).bind fun r36 =>
 (vBinV (.int .i64) .add (strip (strip (strip (strip v2)))) (.int .i64 1)).bind fun x39 =>
 some (none, [v0, r36.1, x39], r36.2)) (
 some (some 0, [v1], H)) := by kernel_rfl
theorem laws_markMailS_eq (a0 a1 : V) (H : VH) : cv id_laws_markMailS [a0, a1] H =
 (lpW' laws_markMailS_l2 [a0, a1, (.int .i64 0)] H).bind fun r41 =>
 inN r41.1 [
 gotV 1 r41.2.1 fun v42 =>
 some ((v42 0), r41.2.2)] := (callV_eq vb _ _ _ rfl).trans (by kernel_rfl)
noncomputable def laws_markIntS_l2 : List V -> VH -> Option (Option Nat × List V × VH) := roundV (vb.ctx cv lpW') (vb.b.ann 19) (vb.takes 19) ⟨⟨[0, 1, 5], [], []⟩, [(.exit 0, ⟨[1], [], []⟩)]⟩ (loopIn Tryz.f19 2)
theorem laws_markIntS_l2_eq (v0 v1 v2 : V) (H : VH) : laws_markIntS_l2 [v0, v1, v2] H =
 (vLenVV (strip v0)).bind fun x4 =>
 (vBinV (.int .i64) .lss v2 x4).bind fun x5 =>
 ifVV x5 (
 (vIdxV 1 (strip v0) (strip v2)).bind fun x9 =>
 (vOneV v1).bind fun y11 =>
 (stO x9 [y11] H).bind fun H12 =>
 (vBinV (.int .i64) .add (strip v1) (.int .i64 1)).bind fun x14 =>
 (vBinV (.int .i64) .add (strip (strip v2)) (.int .i64 1)).bind fun x17 =>
 some (none, [v0, x14, x17], H12)) (
 some (some 0, [v1], H)) := by kernel_rfl
theorem laws_markIntS_eq (a0 a1 : V) (H : VH) : cv id_laws_markIntS [a0, a1] H =
 (lpW' laws_markIntS_l2 [a0, a1, (.int .i64 0)] H).bind fun r19 =>
 inN r19.1 [
 gotV 1 r19.2.1 fun v20 =>
 some ((v20 0), r19.2.2)] := (callV_eq vb _ _ _ rfl).trans (by kernel_rfl)
theorem laws_heldSession_eq (a0 a1 : V) (H : VH) : cv id_laws_heldSession [a0, a1] H =
 (aggNV 6 a0).bind fun c1 =>
 (qc id_laws_heldMail [(frz H (.agg [(strip (c1.getD 2 .nilp)), (strip (c1.getD 3 .nilp)), (strip (c1.getD 4 .nilp))])), (frz H a1)]).bind fun x6 =>
 (vBinV (.int .i64) .lss x6 (.int .i64 0)).bind fun x9 =>
 ifVV x9 (
 some ((.int .i64 (-1)), H)) (
 (qc id_laws_heldMailS [(frz H (strip (c1.getD 5 .nilp))), (frz H (strip x6))]).bind fun x14 =>
 (vBinV (.int .i64) .lss x14 (.int .i64 0)).bind fun x17 =>
 ifVV x17 (
 some ((.int .i64 (-1)), H)) (
 some ((strip x14), H))) := (callV_eq vb _ _ _ rfl).trans (by kernel_rfl)
theorem laws_heldMail_eq (a0 a1 : V) (H : VH) : cv id_laws_heldMail [a0, a1] H =
 (aggNV 3 a0).bind fun c1 =>
 (qc id_laws_heldStringS [(frz H (strip (c1.getD 1 .nilp))), (frz H a1)]).bind fun x6 =>
 (vBinV (.int .i64) .lss x6 (.int .i64 0)).bind fun x9 =>
 ifVV x9 (
 some ((.int .i64 (-1)), H)) (
 (qc id_laws_heldStringS [(frz H (strip (c1.getD 2 .nilp))), (frz H (strip x6))]).bind fun x14 =>
 (vBinV (.int .i64) .lss x14 (.int .i64 0)).bind fun x17 =>
 ifVV x17 (
 some ((.int .i64 (-1)), H)) (
 some ((strip x14), H))) := (callV_eq vb _ _ _ rfl).trans (by kernel_rfl)
noncomputable def laws_heldStringS_l2 : List V -> VH -> Option (Option Nat × List V × VH) := roundV (vb.ctx cv lpW') (vb.b.ann 53) (vb.takes 53) ⟨⟨[0, 1, 5], [], []⟩, [(.exit 0, ⟨[1], [], []⟩), (.ret, ⟨[4], [], []⟩)]⟩ (loopIn Tryz.f53 2)
theorem laws_heldStringS_l2_eq (v0 v1 v2 : V) (H : VH) : laws_heldStringS_l2 [v0, v1, v2] H =
 (vLenVV (strip v0)).bind fun x4 =>
 (vBinV (.int .i64) .lss v2 x4).bind fun x5 =>
 ifVV x5 (
 (vIdxV 1 (strip v0) (strip v2)).bind fun x8 =>
 (ldO globB false false 1 x8 H).bind fun r10 =>
 (qc id_laws_markText [(frz r10.2 v1)]).bind fun x12 =>
 (vBinV .str .neq r10.1 x12).bind fun x13 =>
 ifVV x13 (
 some (some 1, [(.int .i64 (-1))], r10.2)) (
 (vBinV (.int .i64) .add (strip v1) (.int .i64 1)).bind fun x16 =>
 (vBinV (.int .i64) .add (strip (strip v2)) (.int .i64 1)).bind fun x19 =>
 some (none, [v0, x16, x19], r10.2))) (
 some (some 0, [v1], H)) := by kernel_rfl
theorem laws_heldStringS_eq (a0 a1 : V) (H : VH) : cv id_laws_heldStringS [a0, a1] H =
 (lpW' laws_heldStringS_l2 [a0, a1, (.int .i64 0)] H).bind fun r21 =>
 inN r21.1 [
 gotV 1 r21.2.1 fun v22 =>
 some ((v22 0), r21.2.2),
 gotV 1 r21.2.1 fun v25 =>
 some ((v25 0), r21.2.2)] := (callV_eq vb _ _ _ rfl).trans (by kernel_rfl)
noncomputable def laws_heldMailS_l2 : List V -> VH -> Option (Option Nat × List V × VH) := roundV (vb.ctx cv lpW') (vb.b.ann 35) (vb.takes 35) ⟨⟨[0, 1, 5], [], []⟩, [(.exit 0, ⟨[1], [], []⟩), (.ret, ⟨[4], [], []⟩)]⟩ (loopIn Tryz.f35 2)
theorem laws_heldMailS_l2_eq (v0 v1 v2 : V) (H : VH) : laws_heldMailS_l2 [v0, v1, v2] H =
 (vLenVV (strip v0)).bind fun x4 =>
 (vBinV (.int .i64) .lss v2 x4).bind fun x5 =>
 ifVV x5 (
 (vIdxV 3 (strip v0) (strip v2)).bind fun x8 =>
 (vOffV x8 0).bind fun x9 =>
 (ldO globB false false 1 x9 H).bind fun r11 =>
 (qc id_laws_markText [(frz r11.2 v1)]).bind fun x13 =>
 (vBinV .str .neq r11.1 x13).bind fun x14 =>
 ifVV x14 (
 some (some 1, [(.int .i64 (-1))], r11.2)) (
 (vBinV (.int .i64) .add (strip v1) (.int .i64 1)).bind fun x17 =>
 (vIdxV 3 (strip v0) (strip (strip v2))).bind fun x21 =>
 (vOffV x21 1).bind fun x22 =>
 (ldO globB false false 1 x22 r11.2).bind fun r24 =>
 (qc id_laws_heldStringS [(frz r24.2 r24.1), (frz r24.2 x17)]).bind fun x26 =>
 (vBinV (.int .i64) .lss x26 (.int .i64 0)).bind fun x29 =>
 ifVV x29 (
 some (some 1, [(.int .i64 (-1))], r24.2)) (
 (vIdxV 3 (strip v0) (strip (strip (strip v2)))).bind fun x33 =>
 (vOffV x33 2).bind fun x34 =>
 (ldO globB false false 1 x34 r24.2).bind fun r36 =>
 (qc id_laws_heldStringS [(frz r36.2 r36.1), (frz r36.2 (strip x26))]).bind fun x38 =>
 (vBinV (.int .i64) .lss x38 (.int .i64 0)).bind fun x41 =>
 ifVV x41 (
 some (some 1, [(.int .i64 (-1))], r36.2)) (
 (vBinV (.int .i64) .add (strip (strip (strip (strip v2)))) (.int .i64 1)).bind fun x44 =>
 some (none, [v0, (strip x38), x44], r36.2))))) (
 some (some 0, [v1], H)) := by kernel_rfl
theorem laws_heldMailS_eq (a0 a1 : V) (H : VH) : cv id_laws_heldMailS [a0, a1] H =
 (lpW' laws_heldMailS_l2 [a0, a1, (.int .i64 0)] H).bind fun r46 =>
 inN r46.1 [
 gotV 1 r46.2.1 fun v47 =>
 some ((v47 0), r46.2.2),
 gotV 1 r46.2.1 fun v50 =>
 some ((v50 0), r46.2.2)] := (callV_eq vb _ _ _ rfl).trans (by kernel_rfl)
noncomputable def laws_heldIntS_l2 : List V -> VH -> Option (Option Nat × List V × VH) := roundV (vb.ctx cv lpW') (vb.b.ann 20) (vb.takes 20) ⟨⟨[0, 1, 5], [], []⟩, [(.exit 0, ⟨[1], [], []⟩), (.ret, ⟨[4], [], []⟩)]⟩ (loopIn Tryz.f20 2)
theorem laws_heldIntS_l2_eq (v0 v1 v2 : V) (H : VH) : laws_heldIntS_l2 [v0, v1, v2] H =
 (vLenVV (strip v0)).bind fun x4 =>
 (vBinV (.int .i64) .lss v2 x4).bind fun x5 =>
 ifVV x5 (
 (vIdxV 1 (strip v0) (strip v2)).bind fun x8 =>
 (ldO globB false false 1 x8 H).bind fun r10 =>
 (vBinV (.int .i64) .neq r10.1 v1).bind fun x12 =>
 ifVV x12 (
 some (some 1, [(.int .i64 (-1))], r10.2)) (
 (vBinV (.int .i64) .add (strip v1) (.int .i64 1)).bind fun x15 =>
 (vBinV (.int .i64) .add (strip (strip v2)) (.int .i64 1)).bind fun x18 =>
 some (none, [v0, x15, x18], r10.2))) (
 some (some 0, [v1], H)) := by kernel_rfl
theorem laws_heldIntS_eq (a0 a1 : V) (H : VH) : cv id_laws_heldIntS [a0, a1] H =
 (lpW' laws_heldIntS_l2 [a0, a1, (.int .i64 0)] H).bind fun r20 =>
 inN r20.1 [
 gotV 1 r20.2.1 fun v21 =>
 some ((v21 0), r20.2.2),
 gotV 1 r20.2.1 fun v24 =>
 some ((v24 0), r20.2.2)] := (callV_eq vb _ _ _ rfl).trans (by kernel_rfl)
end Go.Proofs.YtjpkhkndkockiaaGreatDoor.Q
