/- What a call of each function comes to. -/
import Derived.Test.YtikpckcdpmjpgabGreatDoorExactTakeMailBaseZ
namespace Go.Proofs.YtikpckcdpmjpgabGreatDoor.Q
open Go Go.AM Go.Proofs
set_option linter.unusedVariables false
set_option maxRecDepth 100000
theorem laws_FnExactTakeMail_eq (a0 a1 : V) (H : VH) : cv id_laws_FnExactTakeMail [a0, a1] H =
 (vLenSV a1).bind fun x2 =>
 (vBinV (.int .i64) .gtr x2 (.int .i64 1048576)).bind fun x3 =>
 ifVV x3 (
 some ((.bool true), H)) (
 (qco id_laws_szBoxS H [(strip a0), (.int .i64 1048576)]).bind fun x8 =>
 (vBinV (.int .i64) .lss x8 (.int .i64 0)).bind fun x11 =>
 ifVV x11 (
 some ((.bool true), H)) (
 (cv id_laws_toBoxS [(strip (strip a0))] H).bind fun r15 =>
 (pco id_spec_TakeMail r15.2 [r15.1, (strip a1)]).bind fun x17 =>
 (vExtV x17 0).bind fun x19 =>
 (vExtV x17 1).bind fun x20 =>
 (vExtV x17 2).bind fun x21 =>
 (aggNV 3 (strip x20)).bind fun c25 =>
 (cv id_laws_toBoxS [(strip (strip a0))] r15.2).bind fun r29 =>
 (pcu id_impl_TakeMail r29.2 [(strip (strip r29.1)), (strip (strip a1))]).bind fun x33 =>
 promB 3 x33 r29.2 fun o34 h35 =>
 (vExtV o34 0).bind fun x37 =>
 (vExtV o34 1).bind fun x38 =>
 (vExtV o34 2).bind fun x39 =>
 (aggNV 3 (strip x38)).bind fun c43 =>
 (id (
 (qco id_laws_eqBoxS h35 [(strip (strip (strip x37))), (strip (strip (strip x19)))]).bind fun x47 =>
 (vUnV .not x47).bind fun x48 =>
 ifGV x48 (
 some (0, [(.bool false)], h35)) (
 (qco id_laws_eqMail h35 [(.agg [(strip (c43.getD 0 .nilp)), (strip (c43.getD 1 .nilp)), (strip (c43.getD 2 .nilp))]), (.agg [(strip (c25.getD 0 .nilp)), (strip (c25.getD 1 .nilp)), (strip (c25.getD 2 .nilp))])]).bind fun x56 =>
 (vUnV .not x56).bind fun x57 =>
 ifGV x57 (
 some (0, [(.bool false)], h35)) (
 (vBinV .bool .neq (strip x39) (strip x21)).bind fun x64 =>
 ifVV x64 (
 some (0, [(.bool false)], h35)) (
 some (1, [a0, (strip (strip (strip a1))), (strip (strip x19)), (strip (strip x21)), (strip r29.1), (strip (strip x37)), (strip (strip x39)), (c25.getD 0 .nilp), (c25.getD 1 .nilp), (c25.getD 2 .nilp), (c43.getD 0 .nilp), (c43.getD 1 .nilp), (c43.getD 2 .nilp)], h35)))) : Option (Nat × List V × VH))).bind fun r67 =>
 inN r67.1 [
 gotV 1 r67.2.1 fun v68 =>
 some ((v68 0), r67.2.2),
 gotV 13 r67.2.1 fun v69 =>
 (cv id_laws_toBoxS [(strip (strip (v69 0)))] r67.2.2).bind fun r73 =>
 (qco id_laws_eqBoxS r73.2 [(strip (v69 4)), r73.1]).bind fun x74 =>
 (vUnV .not x74).bind fun x75 =>
 ifVV x75 (
 some ((.bool false), r73.2)) (
 (cv id_laws_markBoxS [(strip (strip (v69 4))), (.int .i64 1)] r73.2).bind fun r81 =>
 (id (
 (vBinV (.int .i64) .lss r81.1 (.int .i64 0)).bind fun x84 =>
 ifGV x84 (
 some (0, [(.bool false)], r81.2)) (
 (qco id_laws_eqBoxS r81.2 [(strip (v69 5)), (strip (v69 2))]).bind fun x94 =>
 (vUnV .not x94).bind fun x95 =>
 ifGV x95 (
 some (0, [(.bool false)], r81.2)) (
 (qco id_laws_eqMail r81.2 [(.agg [(strip (v69 10)), (strip (v69 11)), (strip (v69 12))]), (.agg [(strip (v69 7)), (strip (v69 8)), (strip (v69 9))])]).bind fun x104 =>
 (vUnV .not x104).bind fun x105 =>
 ifGV x105 (
 some (0, [(.bool false)], r81.2)) (
 (vBinV .bool .neq (v69 6) (v69 3)).bind fun x112 =>
 ifVV x112 (
 some (0, [(.bool false)], r81.2)) (
 some (1, [(v69 0), (v69 1), (v69 2), (strip (v69 3)), (v69 5), (v69 7), (v69 8), (v69 9), (v69 10), (v69 11), (v69 12)], r81.2))))) : Option (Nat × List V × VH))).bind fun r115 =>
 inN r115.1 [
 gotV 1 r115.2.1 fun v116 =>
 some ((v116 0), r115.2.2),
 gotV 11 r115.2.1 fun v117 =>
 (cv id_laws_markBoxS [(strip (strip (v117 4))), (.int .i64 1)] r115.2.2).bind fun r122 =>
 (cv id_laws_markMail [(.agg [(strip (strip (v117 8))), (strip (strip (v117 9))), (strip (strip (v117 10)))]), (strip r122.1)] r122.2).bind fun r127 =>
 (qco id_laws_heldBoxS r127.2 [(strip (v117 4)), (.int .i64 1)]).bind fun x132 =>
 (vBinV (.int .i64) .lss x132 (.int .i64 0)).bind fun x135 =>
 ifVV x135 (
 some ((.bool false), r127.2)) (
 (qco id_laws_heldMail r127.2 [(.agg [(strip (v117 8)), (strip (v117 9)), (strip (v117 10))]), (strip x132)]).bind fun x139 =>
 (vBinV (.int .i64) .lss x139 (.int .i64 0)).bind fun x142 =>
 ifVV x142 (
 some ((.bool false), r127.2)) (
 (vBinV (.int .i64) .neq (strip x139) r127.1).bind fun x146 =>
 ifVV x146 (
 some ((.bool false), r127.2)) (
 (cv id_laws_toBoxS [(strip (strip (v117 0)))] r127.2).bind fun r150 =>
 (pcu id_impl_TakeMail r150.2 [r150.1, (v117 1)]).bind fun x152 =>
 promB 3 x152 r150.2 fun o153 h154 =>
 (vExtV o153 0).bind fun x156 =>
 (vExtV o153 1).bind fun x157 =>
 (vExtV o153 2).bind fun x158 =>
 (aggNV 3 (strip x157)).bind fun c162 =>
 (id (
 (qco id_laws_eqBoxS h154 [(strip (strip (strip x156))), (strip (v117 2))]).bind fun x166 =>
 (vUnV .not x166).bind fun x167 =>
 ifGV x167 (
 some (0, [(.bool false)], h154)) (
 (qco id_laws_eqMail h154 [(.agg [(strip (c162.getD 0 .nilp)), (strip (c162.getD 1 .nilp)), (strip (c162.getD 2 .nilp))]), (.agg [(strip (v117 5)), (strip (v117 6)), (strip (v117 7))])]).bind fun x175 =>
 (vUnV .not x175).bind fun x176 =>
 ifGV x176 (
 some (0, [(.bool false)], h154)) (
 (vBinV .bool .neq (strip x158) (v117 3)).bind fun x183 =>
 ifVV x183 (
 some (0, [(.bool false)], h154)) (
 some (1, [(v117 4), (strip r127.1), (v117 8), (v117 9), (v117 10)], h154)))) : Option (Nat × List V × VH))).bind fun r186 =>
 inN r186.1 [
 gotV 1 r186.2.1 fun v187 =>
 some ((v187 0), r186.2.2),
 gotV 5 r186.2.1 fun v188 =>
 (qco id_laws_heldBoxS r186.2.2 [(strip (v188 0)), (.int .i64 1)]).bind fun x192 =>
 (vBinV (.int .i64) .lss x192 (.int .i64 0)).bind fun x195 =>
 ifVV x195 (
 some ((.bool false), r186.2.2)) (
 (qco id_laws_heldMail r186.2.2 [(.agg [(strip (v188 2)), (strip (v188 3)), (strip (v188 4))]), (strip x192)]).bind fun x199 =>
 (vBinV (.int .i64) .lss x199 (.int .i64 0)).bind fun x202 =>
 ifVV x202 (
 some ((.bool false), r186.2.2)) (
 (vBinV (.int .i64) .neq (strip x199) (v188 1)).bind fun x206 =>
 ifVV x206 (
 some ((.bool false), r186.2.2)) (
 some ((.bool true), r186.2.2))))])))])])) := (callV_eq vb _ _ _ rfl).trans (by kernel_rfl)
noncomputable def laws_szBoxS_l5 : List V -> VH -> Option (Option Nat × List V × VH) := roundV (vb.ctx cv lpW') (vb.b.ann 15) (vb.takes 15) ⟨⟨[0, 1, 5], [], []⟩, [(.exit 0, ⟨[1], [], []⟩), (.ret, ⟨[4], [], []⟩)]⟩ (loopIn Tryz.f15 5)
theorem laws_szBoxS_l5_eq (v0 v1 v2 : V) (H : VH) : laws_szBoxS_l5 [v0, v1, v2] H =
 (vLenVV (strip v0)).bind fun x12 =>
 (vBinV (.int .i64) .lss v2 x12).bind fun x13 =>
 ifVV x13 (
 (vIdxV 2 (strip v0) (strip v2)).bind fun x16 =>
 (ldO globB false true 2 x16 H).bind fun r18 =>
 (qc id_laws_szBox [(frz r18.2 r18.1), (frz r18.2 v1)]).bind fun x20 =>
 (vBinV (.int .i64) .lss x20 (.int .i64 0)).bind fun x23 =>
 ifVV x23 (
 some (some 1, [(.int .i64 (-1))], r18.2)) (
 (vBinV (.int .i64) .add (strip (strip v2)) (.int .i64 1)).bind fun x26 =>
 some (none, [v0, (strip x20), x26], r18.2))) (
 some (some 0, [v1], H)) := by kernel_rfl
theorem laws_szBoxS_eq (a0 a1 : V) (H : VH) : cv id_laws_szBoxS [a0, a1] H =
 (vLenVV (strip a0)).bind fun x3 =>
 (vBinV (.int .i64) .sub a1 x3).bind fun x4 =>
 (vBinV (.int .i64) .lss x4 (.int .i64 0)).bind fun x7 =>
 ifVV x7 (
 some ((.int .i64 (-1)), H)) (
 (lpW' laws_szBoxS_l5 [a0, (strip x4), (.int .i64 0)] H).bind fun r28 =>
 inN r28.1 [
 gotV 1 r28.2.1 fun v29 =>
 some ((v29 0), r28.2.2),
 gotV 1 r28.2.1 fun v32 =>
 some ((v32 0), r28.2.2)]) := (callV_eq vb _ _ _ rfl).trans (by kernel_rfl)
theorem laws_szBox_eq (a0 a1 : V) (H : VH) : cv id_laws_szBox [a0, a1] H =
 (aggNV 2 a0).bind fun c1 =>
 (vLenSV (strip (c1.getD 0 .nilp))).bind fun x6 =>
 (vBinV (.int .i64) .sub a1 x6).bind fun x7 =>
 (vBinV (.int .i64) .lss x7 (.int .i64 0)).bind fun x10 =>
 ifVV x10 (
 some ((.int .i64 (-1)), H)) (
 (qc id_laws_szMailS [(frz H (strip (c1.getD 1 .nilp))), (frz H (strip x7))]).bind fun x15 =>
 (vBinV (.int .i64) .lss x15 (.int .i64 0)).bind fun x18 =>
 ifVV x18 (
 some ((.int .i64 (-1)), H)) (
 some ((strip x15), H))) := (callV_eq vb _ _ _ rfl).trans (by kernel_rfl)
noncomputable def laws_szMailS_l5 : List V -> VH -> Option (Option Nat × List V × VH) := roundV (vb.ctx cv lpW') (vb.b.ann 108) (vb.takes 108) ⟨⟨[0, 1, 5], [], []⟩, [(.exit 0, ⟨[1], [], []⟩), (.ret, ⟨[4], [], []⟩)]⟩ (loopIn Tryz.f108 5)
theorem laws_szMailS_l5_eq (v0 v1 v2 : V) (H : VH) : laws_szMailS_l5 [v0, v1, v2] H =
 (vLenVV (strip v0)).bind fun x12 =>
 (vBinV (.int .i64) .lss v2 x12).bind fun x13 =>
 ifVV x13 (
 (vIdxV 3 (strip v0) (strip v2)).bind fun x16 =>
 (ldO globB false true 3 x16 H).bind fun r18 =>
 (qc id_laws_szMail [(frz r18.2 r18.1), (frz r18.2 v1)]).bind fun x20 =>
 (vBinV (.int .i64) .lss x20 (.int .i64 0)).bind fun x23 =>
 ifVV x23 (
 some (some 1, [(.int .i64 (-1))], r18.2)) (
 (vBinV (.int .i64) .add (strip (strip v2)) (.int .i64 1)).bind fun x26 =>
 some (none, [v0, (strip x20), x26], r18.2))) (
 some (some 0, [v1], H)) := by kernel_rfl
theorem laws_szMailS_eq (a0 a1 : V) (H : VH) : cv id_laws_szMailS [a0, a1] H =
 (vLenVV (strip a0)).bind fun x3 =>
 (vBinV (.int .i64) .sub a1 x3).bind fun x4 =>
 (vBinV (.int .i64) .lss x4 (.int .i64 0)).bind fun x7 =>
 ifVV x7 (
 some ((.int .i64 (-1)), H)) (
 (lpW' laws_szMailS_l5 [a0, (strip x4), (.int .i64 0)] H).bind fun r28 =>
 inN r28.1 [
 gotV 1 r28.2.1 fun v29 =>
 some ((v29 0), r28.2.2),
 gotV 1 r28.2.1 fun v32 =>
 some ((v32 0), r28.2.2)]) := (callV_eq vb _ _ _ rfl).trans (by kernel_rfl)
theorem laws_szMail_eq (a0 a1 : V) (H : VH) : cv id_laws_szMail [a0, a1] H =
 (aggNV 3 a0).bind fun c1 =>
 (vLenSV (strip (c1.getD 0 .nilp))).bind fun x6 =>
 (vBinV (.int .i64) .sub a1 x6).bind fun x7 =>
 (vBinV (.int .i64) .lss x7 (.int .i64 0)).bind fun x10 =>
 ifVV x10 (
 some ((.int .i64 (-1)), H)) (
 (qc id_laws_szStringS [(frz H (strip (c1.getD 1 .nilp))), (frz H (strip x7))]).bind fun x15 =>
 (vBinV (.int .i64) .lss x15 (.int .i64 0)).bind fun x18 =>
 ifVV x18 (
 some ((.int .i64 (-1)), H)) (
 (qc id_laws_szStringS [(frz H (strip (c1.getD 2 .nilp))), (frz H (strip x15))]).bind fun x23 =>
 (vBinV (.int .i64) .lss x23 (.int .i64 0)).bind fun x26 =>
 ifVV x26 (
 some ((.int .i64 (-1)), H)) (
 some ((strip x23), H)))) := (callV_eq vb _ _ _ rfl).trans (by kernel_rfl)
noncomputable def laws_szStringS_l5 : List V -> VH -> Option (Option Nat × List V × VH) := roundV (vb.ctx cv lpW') (vb.b.ann 72) (vb.takes 72) ⟨⟨[0, 1, 5], [], []⟩, [(.exit 0, ⟨[1], [], []⟩), (.ret, ⟨[4], [], []⟩)]⟩ (loopIn Tryz.f72 5)
theorem laws_szStringS_l5_eq (v0 v1 v2 : V) (H : VH) : laws_szStringS_l5 [v0, v1, v2] H =
 (vLenVV (strip v0)).bind fun x12 =>
 (vBinV (.int .i64) .lss v2 x12).bind fun x13 =>
 ifVV x13 (
 (vIdxV 1 (strip v0) (strip v2)).bind fun x17 =>
 (ldO globB false false 1 x17 H).bind fun r19 =>
 (vLenSV r19.1).bind fun x20 =>
 (vBinV (.int .i64) .sub v1 x20).bind fun x21 =>
 (vBinV (.int .i64) .lss x21 (.int .i64 0)).bind fun x24 =>
 ifVV x24 (
 some (some 1, [(.int .i64 (-1))], r19.2)) (
 (vBinV (.int .i64) .add (strip (strip v2)) (.int .i64 1)).bind fun x27 =>
 some (none, [v0, (strip x21), x27], r19.2))) (
 some (some 0, [v1], H)) := by kernel_rfl
theorem laws_szStringS_eq (a0 a1 : V) (H : VH) : cv id_laws_szStringS [a0, a1] H =
 (vLenVV (strip a0)).bind fun x3 =>
 (vBinV (.int .i64) .sub a1 x3).bind fun x4 =>
 (vBinV (.int .i64) .lss x4 (.int .i64 0)).bind fun x7 =>
 ifVV x7 (
 some ((.int .i64 (-1)), H)) (
 (lpW' laws_szStringS_l5 [a0, (strip x4), (.int .i64 0)] H).bind fun r29 =>
 inN r29.1 [
 gotV 1 r29.2.1 fun v30 =>
 some ((v30 0), r29.2.2),
 gotV 1 r29.2.1 fun v33 =>
 some ((v33 0), r29.2.2)]) := (callV_eq vb _ _ _ rfl).trans (by kernel_rfl)
noncomputable def laws_toBoxS_l3 : List V -> VH -> Option (Option Nat × List V × VH) := roundV (vb.ctx cv lpW') (vb.b.ann 17) (vb.takes 17) ⟨⟨[0, 3, 4], [], []⟩, [(.exit 0, ⟨[3], [], []⟩)]⟩ (loopIn Tryz.f17 3)
theorem laws_toBoxS_l3_eq (v0 v1 v2 : V) (H : VH) : laws_toBoxS_l3 [v0, v1, v2] H =
 (vLenVV (strip v0)).bind fun x8 =>
 (vBinV (.int .i64) .lss v2 x8).bind fun x9 =>
 ifVV x9 (
 (vIdxV 2 (strip v0) (strip (strip v2))).bind fun x14 =>
 (ldO globB false true 2 x14 H).bind fun r16 =>
 (cv id_laws_toBox [(strip r16.1)] r16.2).bind fun r18 =>
 (vIdxV 2 (strip v1) (strip v2)).bind fun x19 =>
 (aggNV 2 r18.1).bind fun c21 =>
 (stO x19 [(c21.getD 0 .nilp), (c21.getD 1 .nilp)] r18.2).bind fun H22 =>
 (vBinV (.int .i64) .add (strip (strip (strip v2))) (.int .i64 1)).bind fun x24 =>
 some (none, [v0, v1, x24], H22)) (
 some (some 0, [v1], H)) := by kernel_rfl
theorem laws_toBoxS_eq (a0 : V) (H : VH) : cv id_laws_toBoxS [a0] H =
 (vLenVV (strip a0)).bind fun x2 =>
 (mkLenV 40 x2 x2).bind fun x3 =>
 (lpW' laws_toBoxS_l3 [a0, (.obs H.length 0 x3.1 2), (.int .i64 0)] (H ++ [repV x3.2 [(.str []), (.sl true [])]])).bind fun r26 =>
 inN r26.1 [
 gotV 1 r26.2.1 fun v27 =>
 some ((v27 0), r26.2.2)] := (callV_eq vb _ _ _ rfl).trans (by kernel_rfl)
theorem laws_toBox_eq (a0 : V) (H : VH) : cv id_laws_toBox [a0] H =
 (aggNV 2 a0).bind fun c1 =>
 (vOneV (strip (c1.getD 0 .nilp))).bind fun y8 =>
 (cv id_laws_toMailS [(strip (strip (c1.getD 1 .nilp)))] H).bind fun r12 =>
 (vOneV r12.1).bind fun y15 =>
 some ((.agg [y8, y15]), r12.2) := (callV_eq vb _ _ _ rfl).trans (by kernel_rfl)
noncomputable def laws_toMailS_l3 : List V -> VH -> Option (Option Nat × List V × VH) := roundV (vb.ctx cv lpW') (vb.b.ann 113) (vb.takes 113) ⟨⟨[0, 3, 4], [], []⟩, [(.exit 0, ⟨[3], [], []⟩)]⟩ (loopIn Tryz.f113 3)
theorem laws_toMailS_l3_eq (v0 v1 v2 : V) (H : VH) : laws_toMailS_l3 [v0, v1, v2] H =
 (vLenVV (strip v0)).bind fun x8 =>
 (vBinV (.int .i64) .lss v2 x8).bind fun x9 =>
 ifVV x9 (
 (vIdxV 3 (strip v0) (strip (strip v2))).bind fun x14 =>
 (ldO globB false true 3 x14 H).bind fun r16 =>
 (cv id_laws_toMail [(strip r16.1)] r16.2).bind fun r18 =>
 (vIdxV 3 (strip v1) (strip v2)).bind fun x19 =>
 (aggNV 3 r18.1).bind fun c21 =>
 (stO x19 [(c21.getD 0 .nilp), (c21.getD 1 .nilp), (c21.getD 2 .nilp)] r18.2).bind fun H22 =>
 (vBinV (.int .i64) .add (strip (strip (strip v2))) (.int .i64 1)).bind fun x24 =>
 some (none, [v0, v1, x24], H22)) (
 some (some 0, [v1], H)) := by kernel_rfl
theorem laws_toMailS_eq (a0 : V) (H : VH) : cv id_laws_toMailS [a0] H =
 (vLenVV (strip a0)).bind fun x2 =>
 (mkLenV 64 x2 x2).bind fun x3 =>
 (lpW' laws_toMailS_l3 [a0, (.obs H.length 0 x3.1 3), (.int .i64 0)] (H ++ [repV x3.2 [(.str []), (.sl true []), (.sl true [])]])).bind fun r26 =>
 inN r26.1 [
 gotV 1 r26.2.1 fun v27 =>
 some ((v27 0), r26.2.2)] := (callV_eq vb _ _ _ rfl).trans (by kernel_rfl)
theorem laws_toMail_eq (a0 : V) (H : VH) : cv id_laws_toMail [a0] H =
 (aggNV 3 a0).bind fun c1 =>
 (vOneV (strip (c1.getD 0 .nilp))).bind fun y8 =>
 (cv id_laws_toStringS [(strip (strip (c1.getD 1 .nilp)))] H).bind fun r12 =>
 (vOneV r12.1).bind fun y15 =>
 (cv id_laws_toStringS [(strip (strip (c1.getD 2 .nilp)))] r12.2).bind fun r19 =>
 (vOneV r19.1).bind fun y22 =>
 some ((.agg [y8, y15, y22]), r19.2) := (callV_eq vb _ _ _ rfl).trans (by kernel_rfl)
noncomputable def laws_toStringS_l3 : List V -> VH -> Option (Option Nat × List V × VH) := roundV (vb.ctx cv lpW') (vb.b.ann 73) (vb.takes 73) ⟨⟨[0, 3, 4], [], []⟩, [(.exit 0, ⟨[3], [], []⟩)]⟩ (loopIn Tryz.f73 3)
theorem laws_toStringS_l3_eq (v0 v1 v2 : V) (H : VH) : laws_toStringS_l3 [v0, v1, v2] H =
 (vLenVV (strip v0)).bind fun x8 =>
 (vBinV (.int .i64) .lss v2 x8).bind fun x9 =>
 ifVV x9 (
 (vIdxV 1 (strip v0) (strip (strip v2))).bind fun x14 =>
 (ldO globB false false 1 x14 H).bind fun r16 =>
 (vIdxV 1 (strip v1) (strip v2)).bind fun x17 =>
 (vOneV r16.1).bind fun y19 =>
 (stO x17 [y19] r16.2).bind fun H20 =>
 (vBinV (.int .i64) .add (strip (strip (strip v2))) (.int .i64 1)).bind fun x22 =>
 some (none, [v0, v1, x22], H20)) (
 some (some 0, [v1], H)) := by kernel_rfl
theorem laws_toStringS_eq (a0 : V) (H : VH) : cv id_laws_toStringS [a0] H =
 (vLenVV (strip a0)).bind fun x2 =>
 (mkLenV 16 x2 x2).bind fun x3 =>
 (lpW' laws_toStringS_l3 [a0, (.obs H.length 0 x3.1 1), (.int .i64 0)] (H ++ [repV x3.2 [(.str [])]])).bind fun r24 =>
 inN r24.1 [
 gotV 1 r24.2.1 fun v25 =>
 some ((v25 0), r24.2.2)] := (callV_eq vb _ _ _ rfl).trans (by kernel_rfl)
theorem spec_TakeMail_eq (a0 a1 : V) (H : VH) : cv id_spec_TakeMail [a0, a1] H =
 (pc id_spec_l11RawTakeMail [(frz H (strip a0)), (frz H a1)]).bind fun x5 =>
 (vExtV x5 0).bind fun x7 =>
 (vExtV x5 1).bind fun x8 =>
 (vExtV x5 2).bind fun x9 =>
 (aggNV 3 (strip x8)).bind fun c13 =>
 (pc id_spec_l13OwnListBox [(frz H (strip (strip (strip x7))))]).bind fun x16 =>
 (pc id_spec_l13OwnMail [(frz H (.agg [(strip (c13.getD 0 .nilp)), (strip (c13.getD 1 .nilp)), (strip (c13.getD 2 .nilp))]))]).bind fun x18 =>
 (aggNV 3 x18).bind fun c22 =>
 some ((.tup [x16, (.agg [(c22.getD 0 .nilp), (c22.getD 1 .nilp), (c22.getD 2 .nilp)]), (strip x9)]), H) := (callV_eq vb _ _ _ rfl).trans (by kernel_rfl)
theorem spec_l11RawTakeMail_eq (a0 a1 : V) (H : VH) : cv id_spec_l11RawTakeMail [a0, a1] H =
 (qco id_spec_l11Find H [(strip a0), a1]).bind fun x5 =>
 (id (
 (qco id_spec_BoxesValid H [(strip a0)]).bind fun x8 =>
 (vUnV .not x8).bind fun x9 =>
 ifGV x9 (
 some (0, [(.sl true []), (.bool false), (.str []), (.sl true []), (.sl true [])], H)) (
 (vBinV (.int .i64) .lss x5 (.int .i64 0)).bind fun x20 =>
 ifGV x20 (
 some (0, [(.sl true []), (.bool false), (.str []), (.sl true []), (.sl true [])], H)) (
 (vIdxV 2 (strip a0) (strip x5)).bind fun x31 =>
 (vOffV x31 1).bind fun x32 =>
 (ldO globB false false 1 x32 H).bind fun r34 =>
 (vLenVV r34.1).bind fun x35 =>
 (vBinV (.int .i64) .eql x35 (.int .i64 0)).bind fun x36 =>
 ifVV x36 (
 some (0, [(.sl true []), (.bool false), (.str []), (.sl true []), (.sl true [])], r34.2)) (
 some (1, [a0, (strip (strip x5)), (.str []), (.sl true []), (.sl true [])], r34.2)))) : Option (Nat × List V × VH))).bind fun r43 =>
 inN r43.1 [
 gotV 5 r43.2.1 fun v44 =>
 some ((.tup [(v44 0), (.agg [(v44 2), (v44 3), (v44 4)]), (v44 1)]), r43.2.2),
 gotV 5 r43.2.1 fun v45 =>
 (pco id_spec_l11Copy r43.2.2 [(strip (v45 0))]).bind fun x47 =>
 promB 1 x47 r43.2.2 fun o48 h49 =>
 (vIdxV 2 (strip o48) (v45 1)).bind fun x53 =>
 (vOffV x53 1).bind fun x54 =>
 (ldO globB false false 1 x54 h49).bind fun r56 =>
 (vIdxV 3 r56.1 (.int .i64 0)).bind fun x57 =>
 (ldO globB true true 3 x57 r56.2).bind fun r59 =>
 (aggNV 3 r59.1).bind fun c62 =>
 (vIdxV 2 (strip o48) (strip (strip (v45 1)))).bind fun x68 =>
 (vOffV x68 1).bind fun x69 =>
 (ldO globB false false 1 x69 r59.2).bind fun r71 =>
 (vSliceVV 3 r71.1 (some (.int .i64 1)) none).bind fun x72 =>
 (appV false 3 64 [] x72).bind fun x73 =>
 (vIdxV 2 (strip o48) (strip (v45 1))).bind fun x74 =>
 (vOffV x74 1).bind fun x75 =>
 (vOneV x73).bind fun y77 =>
 (stO x75 [y77] r71.2).bind fun H78 =>
 some ((.tup [o48, (.agg [(c62.getD 0 .nilp), (c62.getD 1 .nilp), (c62.getD 2 .nilp)]), (.bool true)]), H78)] := (callV_eq vb _ _ _ rfl).trans (by kernel_rfl)
noncomputable def spec_l11Find_l2 : List V -> VH -> Option (Option Nat × List V × VH) := roundV (vb.ctx cv lpW') (vb.b.ann 109) (vb.takes 109) ⟨⟨[0, 1, 5], [], []⟩, [(.exit 0, ⟨[], [], []⟩), (.ret, ⟨[4], [], []⟩)]⟩ (loopIn Tryz.f109 2)
theorem spec_l11Find_l2_eq (v0 v1 v2 : V) (H : VH) : spec_l11Find_l2 [v0, v1, v2] H =
 (vLenVV (strip v0)).bind fun x4 =>
 (vBinV (.int .i64) .lss v2 x4).bind fun x5 =>
 ifVV x5 (
 (vIdxV 2 (strip v0) (strip v2)).bind fun x8 =>
 (vOffV x8 0).bind fun x9 =>
 (ldO globB false false 1 x9 H).bind fun r11 =>
 (vBinV .str .eql r11.1 v1).bind fun x13 =>
 ifVV x13 (
 some (some 1, [(strip (strip v2))], r11.2)) (
 (vBinV (.int .i64) .add (strip (strip v2)) (.int .i64 1)).bind fun x17 =>
 some (none, [v0, (strip v1), x17], r11.2))) (
 some (some 0, [], H)) := by kernel_rfl
theorem spec_l11Find_eq (a0 a1 : V) (H : VH) : cv id_spec_l11Find [a0, a1] H =
 (lpW' spec_l11Find_l2 [a0, a1, (.int .i64 0)] H).bind fun r19 =>
 inN r19.1 [
 gotV 0 r19.2.1 fun v20 =>
 some ((.int .i64 (-1)), r19.2.2),
 gotV 1 r19.2.1 fun v22 =>
 some ((v22 0), r19.2.2)] := (callV_eq vb _ _ _ rfl).trans (by kernel_rfl)
noncomputable def spec_BoxesValid_l7 : List V -> VH -> Option (Option Nat × List V × VH) := roundV (vb.ctx cv lpW') (vb.b.ann 110) (vb.takes 110) ⟨⟨[0, 3, 4], [], []⟩, [(.exit 2, ⟨[0, 3], [], []⟩), (.ret, ⟨[2], [], []⟩)]⟩ (loopIn Tryz.f110 7)
noncomputable def spec_BoxesValid_l2 : List V -> VH -> Option (Option Nat × List V × VH) := roundV (vb.ctx cv lpW') (vb.b.ann 110) (vb.takes 110) ⟨⟨[0, 3], [], []⟩, [(.exit 0, ⟨[0], [], []⟩), (.ret, ⟨[2], [], []⟩)]⟩ (loopIn Tryz.f110 2)
theorem spec_BoxesValid_l7_eq (v0 v1 v2 : V) (H : VH) : spec_BoxesValid_l7 [v0, v1, v2] H =
 (vIdxV 2 (strip v0) v1).bind fun x67 =>
 (vOffV x67 1).bind fun x68 =>
 (ldO globB false false 1 x68 H).bind fun r70 =>
 (vLenVV r70.1).bind fun x71 =>
 (vBinV (.int .i64) .lss v2 x71).bind fun x72 =>
 ifVV x72 (
 (vIdxV 2 (strip v0) (strip v1)).bind fun x75 =>
 (vOffV x75 1).bind fun x76 =>
 (ldO globB false false 1 x76 r70.2).bind fun r78 =>
 (vIdxV 3 r78.1 (strip v2)).bind fun x80 =>
 (ldO globB false true 3 x80 r78.2).bind fun r82 =>
 (qc id_spec_MailValid [(frz r82.2 r82.1)]).bind fun x83 =>
 (vUnV .not x83).bind fun x84 =>
 ifVV x84 (
 some (some 1, [(.bool false)], r82.2)) (
 (vBinV (.int .i64) .add (strip (strip v2)) (.int .i64 1)).bind fun x87 =>
 some (none, [v0, (strip (strip v1)), x87], r82.2))) (
 some (some 0, [v0, (strip v1)], r70.2)) := by kernel_rfl
theorem spec_BoxesValid_l2_eq (v0 v1 : V) (H : VH) : spec_BoxesValid_l2 [v0, v1] H =
 (id (
 (vLenVV (strip v0)).bind fun x4 =>
 (vBinV (.int .i64) .lss v1 x4).bind fun x5 =>
 ifGV x5 (
 (vBinV (.int .i64) .leq (strip v1) (.int .i64 8)).bind fun x8 =>
 ifVV x8 (
 some (0, [v0, (strip (strip v1))], H)) (
 some (1, [v0], H))) (
 some (1, [v0], H)) : Option (Nat × List V × VH))).bind fun r11 =>
 inN r11.1 [
 gotV 2 r11.2.1 fun v12 =>
 (id (
 (id (
 (vIdxV 2 (strip (v12 0)) (v12 1)).bind fun x15 =>
 (vOffV x15 0).bind fun x16 =>
 (ldO globB false false 1 x16 r11.2.2).bind fun r18 =>
 (qc id_spec_l10Box [(frz r18.2 r18.1)]).bind fun x19 =>
 (vUnV .not x19).bind fun x20 =>
 ifGV x20 (
 some (0, [(.bool false)], r18.2)) (
 (vIdxV 2 (strip (v12 0)) (strip (v12 1))).bind fun x28 =>
 (vOffV x28 1).bind fun x29 =>
 (ldO globB false false 1 x29 r18.2).bind fun r31 =>
 (vLenVV r31.1).bind fun x32 =>
 (vBinV (.int .i64) .gtr x32 (.int .i64 4)).bind fun x33 =>
 ifGV x33 (
 some (0, [(.bool false)], r31.2)) (
 (vBinV (.int .i64) .gtr (strip (strip (v12 1))) (.int .i64 0)).bind fun x39 =>
 ifGV x39 (
 (vBinV (.int .i64) .sub (strip (strip (strip (v12 1)))) (.int .i64 1)).bind fun x43 =>
 (vIdxV 2 (strip (v12 0)) x43).bind fun x44 =>
 (vOffV x44 0).bind fun x45 =>
 (ldO globB false false 1 x45 r31.2).bind fun r47 =>
 (vIdxV 2 (strip (v12 0)) (strip (strip (strip (strip (v12 1)))))).bind fun x50 =>
 (vOffV x50 0).bind fun x51 =>
 (ldO globB false false 1 x51 r47.2).bind fun r53 =>
 (vBinV .str .geq r47.1 r53.1).bind fun x54 =>
 ifVV x54 (
 some (0, [(.bool false)], r53.2)) (
 some (1, [(v12 0), (strip (strip (strip (strip (strip (v12 1))))))], r53.2))) (
 some (1, [(v12 0), (strip (strip (strip (v12 1))))], r31.2)))) : Option (Nat × List V × VH))).bind fun r60 =>
 inN r60.1 [
 gotV 1 r60.2.1 fun v61 =>
 some (0, [(v61 0)], r60.2.2),
 gotV 2 r60.2.1 fun v62 =>
 (lpW' spec_BoxesValid_l7 [(v62 0), (v62 1), (.int .i64 0)] r60.2.2).bind fun r89 =>
 inN r89.1 [
 gotV 2 r89.2.1 fun v90 =>
 some (1, [(v90 0), (v90 1)], r89.2.2),
 gotV 1 r89.2.1 fun v91 =>
 some (0, [(v91 0)], r89.2.2)]] : Option (Nat × List V × VH))).bind fun r92 =>
 inN r92.1 [
 gotV 1 r92.2.1 fun v93 =>
 some (some 1, [(v93 0)], r92.2.2),
 gotV 2 r92.2.1 fun v94 =>
 (vBinV (.int .i64) .add (v94 1) (.int .i64 1)).bind fun x96 =>
 some (none, [(v94 0), x96], r92.2.2)],
 gotV 1 r11.2.1 fun v98 =>
 some (some 0, [(v98 0)], r11.2.2)] := by kernel_rfl
theorem spec_BoxesValid_eq (a0 : V) (H : VH) : cv id_spec_BoxesValid [a0] H =
 (lpW' spec_BoxesValid_l2 [a0, (.int .i64 0)] H).bind fun r99 =>
 inN r99.1 [
 gotV 1 r99.2.1 fun v100 =>
 (vLenVV (strip (v100 0))).bind fun x102 =>
 (vBinV (.int .i64) .leq x102 (.int .i64 8)).bind fun x103 =>
 some (x103, r99.2.2),
 gotV 1 r99.2.1 fun v105 =>
 some ((v105 0), r99.2.2)] := (callV_eq vb _ _ _ rfl).trans (by kernel_rfl)
theorem spec_l10Box_eq (a0 : V) (H : VH) : cv id_spec_l10Box [a0] H =
 (pc id_spec_l2Box [(frz H a0)]).bind fun x2 =>
 (vExtV x2 0).bind fun x4 =>
 (vExtV x2 1).bind fun x5 =>
 (aggNV 3 (strip x4)).bind fun c8 =>
 ifGV (strip x5) (
 (vBinV .str .add (strip (c8.getD 1 .nilp)) (.str [64])).bind fun x14 =>
 (vBinV .str .add x14 (strip (c8.getD 2 .nilp))).bind fun x17 =>
 (vBinV .str .eql x17 (strip a0)).bind fun x19 =>
 some (x19, H)) (
 some ((.bool false), H)) := (callV_eq vb _ _ _ rfl).trans (by kernel_rfl)
theorem spec_l2Box_eq (a0 : V) (H : VH) : cv id_spec_l2Box [a0] H =
 (qc id_spec_l2Cut [(frz H a0), (frz H (.int .u8 64))]).bind fun x3 =>
 (vExtV x3 0).bind fun x5 =>
 (vExtV x3 1).bind fun x6 =>
 (vExtV x3 2).bind fun x7 =>
 (qc id_spec_LowerText [(frz H (strip x6))]).bind fun x13 =>
 (vOneV (strip x5)).bind fun y15 =>
 (vOneV x13).bind fun y16 =>
 ifGV (strip x7) (
 (qc id_spec_AddressValid [(frz H (.agg [(.str []), (strip y15), (strip y16)]))]).bind fun x23 =>
 some ((.tup [(.agg [(.str []), (strip y15), (strip y16)]), x23]), H)) (
 some ((.tup [(.agg [(.str []), (strip y15), (strip y16)]), (.bool false)]), H)) := (callV_eq vb _ _ _ rfl).trans (by kernel_rfl)
noncomputable def spec_l2Cut_l2 : List V -> VH -> Option (Option Nat × List V × VH) := roundV (vb.ctx cv lpW') (vb.b.ann 155) (vb.takes 155) ⟨⟨[0, 1, 7], [], []⟩, [(.exit 0, ⟨[0], [], []⟩), (.ret, ⟨[4, 5, 6], [], []⟩)]⟩ (loopIn Tryz.f155 2)
theorem spec_l2Cut_l2_eq (v0 v1 v2 : V) (H : VH) : spec_l2Cut_l2 [v0, v1, v2] H =
 (vLenSV v0).bind fun x6 =>
 (vBinV (.int .i64) .lss v2 x6).bind fun x7 =>
 ifVV x7 (
 (vIndexSV (strip v0) (strip v2)).bind fun x10 =>
 (vBinV (.int .u8) .eql x10 (.int .u8 34)).bind fun x11 =>
 ifVV x11 (
 (qc id_spec_l1Read [(frz H (strip (strip v0))), (frz H (strip (strip v2)))]).bind fun x14 =>
 (vExtV x14 0).bind fun x16 =>
 (vExtV x14 1).bind fun x17 =>
 (vBinV (.int .i64) .lss (strip x17) (.int .i64 0)).bind fun x21 =>
 ifVV x21 (
 some (some 1, [(strip (strip (strip v0))), (.str []), (.bool false)], H)) (
 some (none, [(strip (strip (strip v0))), v1, (strip (strip x17))], H))) (
 (vIndexSV (strip (strip v0)) (strip (strip v2))).bind fun x30 =>
 (vBinV (.int .u8) .eql x30 v1).bind fun x32 =>
 ifVV x32 (
 (vSliceSV (strip (strip (strip v0))) none (some (strip (strip (strip v2))))).bind fun x35 =>
 (vBinV (.int .i64) .add (strip (strip (strip (strip v2)))) (.int .i64 1)).bind fun x38 =>
 (vSliceSV (strip (strip (strip (strip v0)))) (some x38) none).bind fun x39 =>
 some (some 1, [x35, x39, (.bool true)], H)) (
 (vBinV (.int .i64) .add (strip (strip (strip v2))) (.int .i64 1)).bind fun x44 =>
 some (none, [(strip (strip (strip v0))), (strip v1), x44], H)))) (
 some (some 0, [(strip v0)], H)) := by kernel_rfl
theorem spec_l2Cut_eq (a0 a1 : V) (H : VH) : cv id_spec_l2Cut [a0, a1] H =
 (lpW' spec_l2Cut_l2 [a0, a1, (.int .i64 0)] H).bind fun r46 =>
 inN r46.1 [
 gotV 1 r46.2.1 fun v47 =>
 some ((.tup [(v47 0), (.str []), (.bool false)]), r46.2.2),
 gotV 3 r46.2.1 fun v52 =>
 some ((.tup [(v52 0), (v52 1), (v52 2)]), r46.2.2)] := (callV_eq vb _ _ _ rfl).trans (by kernel_rfl)
noncomputable def spec_l1Read_l3 : List V -> VH -> Option (Option Nat × List V × VH) := roundV (vb.ctx cv lpW') (vb.b.ann 163) (vb.takes 163) ⟨⟨[0, 6, 7], [], []⟩, [(.exit 0, ⟨[], [], []⟩), (.ret, ⟨[4, 5], [], []⟩)]⟩ (loopIn Tryz.f163 3)
theorem spec_l1Read_l3_eq (v0 v1 v2 : V) (H : VH) : spec_l1Read_l3 [v0, v1, v2] H =
 (vLenSV v0).bind fun x8 =>
 (vBinV (.int .i64) .lss v2 x8).bind fun x9 =>
 ifVV x9 (
 (id (
 (vIndexSV (strip v0) (strip v2)).bind fun x12 =>
 (vBinV (.int .u8) .eql x12 (.int .u8 34)).bind fun x13 =>
 ifVV x13 (
 (vBinV (.int .i64) .add (strip (strip v2)) (.int .i64 1)).bind fun x16 =>
 some (0, [v1, x16], H)) (
 (id (
 (vIndexSV (strip (strip v0)) (strip (strip v2))).bind fun x21 =>
 (vBinV (.int .u8) .eql x21 (.int .u8 92)).bind fun x22 =>
 ifVV x22 (
 (vBinV (.int .i64) .add (strip (strip (strip v2))) (.int .i64 1)).bind fun x24 =>
 (vLenSV (strip (strip (strip v0)))).bind fun x28 =>
 (vBinV (.int .i64) .eql x24 x28).bind fun x29 =>
 ifVV x29 (
 some (0, [(.str []), (.int .i64 (-1))], H)) (
 some (1, [(strip (strip (strip (strip v0)))), v1, (strip x24)], H))) (
 some (1, [(strip (strip (strip v0))), v1, (strip (strip (strip v2)))], H)) : Option (Nat × List V × VH))).bind fun r32 =>
 inN r32.1 [
 gotV 2 r32.2.1 fun v33 =>
 some (0, [(v33 0), (v33 1)], r32.2.2),
 gotV 3 r32.2.1 fun v34 =>
 (vBinV (.int .i64) .add (strip (v34 2)) (.int .i64 1)).bind fun x39 =>
 (vSliceSV (v34 0) (some (v34 2)) (some x39)).bind fun x40 =>
 (vBinV .str .add (v34 1) x40).bind fun x41 =>
 some (1, [(strip (v34 0)), x41, (strip (strip (v34 2)))], r32.2.2)]) : Option (Nat × List V × VH))).bind fun r43 =>
 inN r43.1 [
 gotV 2 r43.2.1 fun v44 =>
 some (some 1, [(v44 0), (v44 1)], r43.2.2),
 gotV 3 r43.2.1 fun v45 =>
 (vBinV (.int .i64) .add (v45 2) (.int .i64 1)).bind fun x47 =>
 some (none, [(v45 0), (v45 1), x47], r43.2.2)]) (
 some (some 0, [], H)) := by kernel_rfl
theorem spec_l1Read_eq (a0 a1 : V) (H : VH) : cv id_spec_l1Read [a0, a1] H =
 (vBinV (.int .i64) .add a1 (.int .i64 1)).bind fun x4 =>
 (lpW' spec_l1Read_l3 [a0, (.str []), x4] H).bind fun r49 =>
 inN r49.1 [
 gotV 0 r49.2.1 fun v50 =>
 some ((.tup [(.str []), (.int .i64 (-1))]), r49.2.2),
 gotV 2 r49.2.1 fun v53 =>
 some ((.tup [(v53 0), (v53 1)]), r49.2.2)] := (callV_eq vb _ _ _ rfl).trans (by kernel_rfl)
noncomputable def spec_LowerText_l3 : List V -> VH -> Option (Option Nat × List V × VH) := roundV (vb.ctx cv lpW') (vb.b.ann 153) (vb.takes 153) ⟨⟨[3, 4], [], []⟩, [(.exit 0, ⟨[3], [], []⟩)]⟩ (loopIn Tryz.f153 3)
theorem spec_LowerText_l3_eq (v0 v1 : V) (H : VH) : spec_LowerText_l3 [v0, v1] H =
 (vLenVV (strip v0)).bind fun x7 =>
 (vBinV (.int .i64) .lss v1 x7).bind fun x8 =>
 ifVV x8 (
 (id (
 (vIdxV 1 (strip v0) (strip v1)).bind fun x11 =>
 (ldO globB false false 1 x11 H).bind fun r13 =>
 (vBinV (.int .u8) .geq r13.1 (.int .u8 65)).bind fun x14 =>
 ifGV x14 (
 (vIdxV 1 (strip v0) (strip (strip v1))).bind fun x18 =>
 (ldO globB false false 1 x18 r13.2).bind fun r20 =>
 (vBinV (.int .u8) .leq r20.1 (.int .u8 90)).bind fun x21 =>
 ifVV x21 (
 (vIdxV 1 (strip v0) (strip (strip (strip (strip v1))))).bind fun x27 =>
 (ldO globB false false 1 x27 r20.2).bind fun r29 =>
 (vBinV (.int .u8) .add r29.1 (.int .u8 32)).bind fun x30 =>
 (vIdxV 1 (strip v0) (strip (strip (strip v1)))).bind fun x31 =>
 (vOneV x30).bind fun y33 =>
 (stO x31 [y33] r29.2).bind fun H34 =>
 some (0, [v0, (strip (strip (strip (strip (strip v1)))))], H34)) (
 some (0, [v0, (strip (strip (strip v1)))], r20.2))) (
 some (0, [v0, (strip (strip v1))], r13.2)) : Option (Nat × List V × VH))).bind fun r36 =>
 inN r36.1 [
 gotV 2 r36.2.1 fun v37 =>
 (vBinV (.int .i64) .add (v37 1) (.int .i64 1)).bind fun x39 =>
 some (none, [(v37 0), x39], r36.2.2)]) (
 some (some 0, [v0], H)) := by kernel_rfl
theorem spec_LowerText_eq (a0 : V) (H : VH) : cv id_spec_LowerText [a0] H =
 (s2bV a0).bind fun x2 =>
 (lpW' spec_LowerText_l3 [(.obs H.length 0 x2.length 1), (.int .i64 0)] (H ++ [x2])).bind fun r41 =>
 inN r41.1 [
 gotV 1 r41.2.1 fun v42 =>
 (b2sV (strip (v42 0)) r41.2.2).bind fun x44 =>
 some (x44, r41.2.2)] := (callV_eq vb _ _ _ rfl).trans (by kernel_rfl)
theorem spec_AddressValid_eq (a0 : V) (H : VH) : cv id_spec_AddressValid [a0] H =
 (aggNV 3 a0).bind fun c1 =>
 (qc id_spec_l2Name [(frz H (strip (c1.getD 0 .nilp)))]).bind fun x5 =>
 ifGV x5 (
 (vLenSV (strip (c1.getD 1 .nilp))).bind fun x9 =>
 (vBinV (.int .i64) .leq x9 (.int .i64 30)).bind fun x10 =>
 ifGV x10 (
 (qc id_spec_l2Local [(frz H (strip (c1.getD 1 .nilp)))]).bind fun x15 =>
 ifGV x15 (
 (vLenSV (strip (c1.getD 2 .nilp))).bind fun x20 =>
 (vBinV (.int .i64) .leq x20 (.int .i64 40)).bind fun x21 =>
 ifGV x21 (
 (qc id_spec_l2Domain [(frz H (strip (c1.getD 2 .nilp)))]).bind fun x26 =>
 some (x26, H)) (
 some ((.bool false), H))) (
 some ((.bool false), H))) (
 some ((.bool false), H))) (
 some ((.bool false), H)) := (callV_eq vb _ _ _ rfl).trans (by kernel_rfl)
theorem spec_l2Name_eq (a0 : V) (H : VH) : cv id_spec_l2Name [a0] H =
 (qc id_spec_TextValid [(frz H a0)]).bind fun x2 =>
 ifGV x2 (
 (vLenSV (strip a0)).bind fun x5 =>
 (vBinV (.int .i64) .leq x5 (.int .i64 40)).bind fun x6 =>
 some (x6, H)) (
 some ((.bool false), H)) := (callV_eq vb _ _ _ rfl).trans (by kernel_rfl)
noncomputable def spec_TextValid_l2 : List V -> VH -> Option (Option Nat × List V × VH) := roundV (vb.ctx cv lpW') (vb.b.ann 135) (vb.takes 135) ⟨⟨[0, 3], [], []⟩, [(.exit 0, ⟨[0], [], []⟩), (.ret, ⟨[2], [], []⟩)]⟩ (loopIn Tryz.f135 2)
theorem spec_TextValid_l2_eq (v0 v1 : V) (H : VH) : spec_TextValid_l2 [v0, v1] H =
 (id (
 (vLenSV v0).bind fun x4 =>
 (vBinV (.int .i64) .lss v1 x4).bind fun x5 =>
 ifGV x5 (
 (vBinV (.int .i64) .leq (strip v1) (.int .i64 200)).bind fun x8 =>
 ifVV x8 (
 some (0, [(strip v0), (strip (strip v1))], H)) (
 some (1, [(strip v0)], H))) (
 some (1, [(strip v0)], H)) : Option (Nat × List V × VH))).bind fun r11 =>
 inN r11.1 [
 gotV 2 r11.2.1 fun v12 =>
 (id (
 (vIndexSV (v12 0) (v12 1)).bind fun x15 =>
 (vBinV (.int .u8) .lss x15 (.int .u8 32)).bind fun x16 =>
 ifGV x16 (
 some (0, [(.bool false)], r11.2.2)) (
 (vIndexSV (strip (v12 0)) (strip (v12 1))).bind fun x22 =>
 (vBinV (.int .u8) .gtr x22 (.int .u8 126)).bind fun x23 =>
 ifVV x23 (
 some (0, [(.bool false)], r11.2.2)) (
 some (1, [(strip (strip (v12 0))), (strip (strip (v12 1)))], r11.2.2))) : Option (Nat × List V × VH))).bind fun r26 =>
 inN r26.1 [
 gotV 1 r26.2.1 fun v27 =>
 some (some 1, [(v27 0)], r26.2.2),
 gotV 2 r26.2.1 fun v28 =>
 (vBinV (.int .i64) .add (v28 1) (.int .i64 1)).bind fun x30 =>
 some (none, [(v28 0), x30], r26.2.2)],
 gotV 1 r11.2.1 fun v32 =>
 some (some 0, [(v32 0)], r11.2.2)] := by kernel_rfl
theorem spec_TextValid_eq (a0 : V) (H : VH) : cv id_spec_TextValid [a0] H =
 (lpW' spec_TextValid_l2 [a0, (.int .i64 0)] H).bind fun r33 =>
 inN r33.1 [
 gotV 1 r33.2.1 fun v34 =>
 (vLenSV (v34 0)).bind fun x36 =>
 (vBinV (.int .i64) .leq x36 (.int .i64 200)).bind fun x37 =>
 some (x37, r33.2.2),
 gotV 1 r33.2.1 fun v39 =>
 some ((v39 0), r33.2.2)] := (callV_eq vb _ _ _ rfl).trans (by kernel_rfl)
noncomputable def spec_l2Local_l3 : List V -> VH -> Option (Option Nat × List V × VH) := roundV (vb.ctx cv lpW') (vb.b.ann 165) (vb.takes 165) ⟨⟨[0, 3, 4], [], []⟩, [(.exit 0, ⟨[0], [], []⟩), (.ret, ⟨[2], [], []⟩)]⟩ (loopIn Tryz.f165 3)
theorem spec_l2Local_l3_eq (v0 v1 v2 : V) (H : VH) : spec_l2Local_l3 [v0, v1, v2] H =
 (vLenVV (strip v1)).bind fun x7 =>
 (vBinV (.int .i64) .lss v2 x7).bind fun x8 =>
 ifVV x8 (
 (vIdxV 1 (strip v1) (strip v2)).bind fun x11 =>
 (ldO globB false false 1 x11 H).bind fun r13 =>
 (qc id_spec_AtomValid [(frz r13.2 r13.1)]).bind fun x14 =>
 (vUnV .not x14).bind fun x15 =>
 ifVV x15 (
 some (some 1, [(.bool false)], r13.2)) (
 (vBinV (.int .i64) .add (strip (strip v2)) (.int .i64 1)).bind fun x18 =>
 some (none, [v0, v1, x18], r13.2))) (
 some (some 0, [v0], H)) := by kernel_rfl
theorem spec_l2Local_eq (a0 : V) (H : VH) : cv id_spec_l2Local [a0] H =
 (pc id_spec_l2Parts [(frz H a0), (frz H (.int .u8 46))]).bind fun x2 =>
 (lpW' spec_l2Local_l3 [(strip a0), (strip x2), (.int .i64 0)] H).bind fun r20 =>
 inN r20.1 [
 gotV 1 r20.2.1 fun v21 =>
 (vLenSV (v21 0)).bind fun x23 =>
 (vBinV (.int .i64) .leq x23 (.int .i64 30)).bind fun x24 =>
 some (x24, r20.2.2),
 gotV 1 r20.2.1 fun v26 =>
 some ((v26 0), r20.2.2)] := (callV_eq vb _ _ _ rfl).trans (by kernel_rfl)
noncomputable def spec_l2Parts_l4 : List V -> VH -> Option (Option Nat × List V × VH) := roundV (vb.ctx cv lpW') (vb.b.ann 96) (vb.takes 96) ⟨⟨[0, 1, 5, 6, 7], [], []⟩, [(.exit 0, ⟨[0, 5, 6], [], []⟩)]⟩ (loopIn Tryz.f96 4)
theorem spec_l2Parts_l4_eq (v0 v1 v2 v3 v4 : V) (H : VH) : spec_l2Parts_l4 [v0, v1, v2, v3, v4] H =
 (vLenSV v0).bind fun x7 =>
 (vBinV (.int .i64) .lss v4 x7).bind fun x8 =>
 ifVV x8 (
 (id (
 (vIndexSV (strip v0) (strip v4)).bind fun x11 =>
 (vBinV (.int .u8) .eql x11 v1).bind fun x13 =>
 ifVV x13 (
 (vSliceSV (strip (strip v0)) (some v3) (some (strip (strip v4)))).bind fun x18 =>
 (vOneV x18).bind fun y20 =>
 (ownV v2).bind fun s22 =>
 (appV false 1 16 s22 (.sl true [[y20]])).bind fun x21 =>
 (vBinV (.int .i64) .add (strip (strip (strip v4))) (.int .i64 1)).bind fun x25 =>
 some (0, [(strip (strip (strip v0))), (strip v1), x21, x25, (strip (strip (strip (strip v4))))], H)) (
 some (0, [(strip (strip v0)), (strip v1), v2, v3, (strip (strip v4))], H)) : Option (Nat × List V × VH))).bind fun r27 =>
 inN r27.1 [
 gotV 5 r27.2.1 fun v28 =>
 (vBinV (.int .i64) .add (v28 4) (.int .i64 1)).bind fun x30 =>
 some (none, [(v28 0), (v28 1), (v28 2), (v28 3), x30], r27.2.2)]) (
 some (some 0, [(strip v0), v2, v3], H)) := by kernel_rfl
theorem spec_l2Parts_eq (a0 a1 : V) (H : VH) : cv id_spec_l2Parts [a0, a1] H =
 (lpW' spec_l2Parts_l4 [a0, a1, (.sl true []), (.int .i64 0), (.int .i64 0)] H).bind fun r32 =>
 inN r32.1 [
 gotV 3 r32.2.1 fun v33 =>
 (vSliceSV (v33 0) (some (v33 2)) none).bind fun x37 =>
 (vOneV x37).bind fun y39 =>
 (ownV (v33 1)).bind fun s41 =>
 (appV false 1 16 s41 (.sl true [[y39]])).bind fun x40 =>
 some (x40, r32.2.2)] := (callV_eq vb _ _ _ rfl).trans (by kernel_rfl)
noncomputable def spec_AtomValid_l2 : List V -> VH -> Option (Option Nat × List V × VH) := roundV (vb.ctx cv lpW') (vb.b.ann 172) (vb.takes 172) ⟨⟨[0, 3], [], []⟩, [(.exit 0, ⟨[0], [], []⟩), (.ret, ⟨[2], [], []⟩)]⟩ (loopIn Tryz.f172 2)
theorem spec_AtomValid_l2_eq (v0 v1 : V) (H : VH) : spec_AtomValid_l2 [v0, v1] H =
 (id (
 (vLenSV v0).bind fun x4 =>
 (vBinV (.int .i64) .lss v1 x4).bind fun x5 =>
 ifGV x5 (
 (vBinV (.int .i64) .leq (strip v1) (.int .i64 40)).bind fun x8 =>
 ifVV x8 (
 some (0, [(strip v0), (strip (strip v1))], H)) (
 some (1, [(strip v0)], H))) (
 some (1, [(strip v0)], H)) : Option (Nat × List V × VH))).bind fun r11 =>
 inN r11.1 [
 gotV 2 r11.2.1 fun v12 =>
 (vIndexSV (v12 0) (v12 1)).bind fun x15 =>
 (qc id_spec_l1Atom [(frz r11.2.2 x15)]).bind fun x16 =>
 (vUnV .not x16).bind fun x17 =>
 ifVV x17 (
 some (some 1, [(.bool false)], r11.2.2)) (
 (vBinV (.int .i64) .add (strip (v12 1)) (.int .i64 1)).bind fun x20 =>
 some (none, [(strip (v12 0)), x20], r11.2.2)),
 gotV 1 r11.2.1 fun v22 =>
 some (some 0, [(v22 0)], r11.2.2)] := by kernel_rfl
theorem spec_AtomValid_eq (a0 : V) (H : VH) : cv id_spec_AtomValid [a0] H =
 (lpW' spec_AtomValid_l2 [a0, (.int .i64 0)] H).bind fun r23 =>
 inN r23.1 [
 gotV 1 r23.2.1 fun v24 =>
 (vLenSV (v24 0)).bind fun x26 =>
 (vBinV (.int .i64) .geq x26 (.int .i64 1)).bind fun x27 =>
 ifGV x27 (
 (vLenSV (strip (v24 0))).bind fun x30 =>
 (vBinV (.int .i64) .leq x30 (.int .i64 40)).bind fun x31 =>
 some (x31, r23.2.2)) (
 some ((.bool false), r23.2.2)),
 gotV 1 r23.2.1 fun v36 =>
 some ((v36 0), r23.2.2)] := (callV_eq vb _ _ _ rfl).trans (by kernel_rfl)
noncomputable def spec_l1Atom_l2 : List V -> VH -> Option (Option Nat × List V × VH) := roundV (vb.ctx cv lpW') (vb.b.ann 175) (vb.takes 175) ⟨⟨[0, 3], [], []⟩, [(.exit 0, ⟨[0], [], []⟩), (.ret, ⟨[2], [], []⟩)]⟩ (loopIn Tryz.f175 2)
theorem spec_l1Atom_l2_eq (v0 v1 : V) (H : VH) : spec_l1Atom_l2 [v0, v1] H =
 (vBinV (.int .i64) .lss v1 (.int .i64 19)).bind fun x3 =>
 ifVV x3 (
 (vIndexSV (.str [33, 35, 36, 37, 38, 39, 42, 43, 45, 47, 61, 63, 94, 95, 96, 123, 124, 125, 126]) (strip v1)).bind fun x6 =>
 (vBinV (.int .u8) .eql v0 x6).bind fun x7 =>
 ifVV x7 (
 some (some 1, [(.bool true)], H)) (
 (vBinV (.int .i64) .add (strip (strip v1)) (.int .i64 1)).bind fun x10 =>
 some (none, [(strip v0), x10], H))) (
 some (some 0, [v0], H)) := by kernel_rfl
theorem spec_l1Atom_eq (a0 : V) (H : VH) : cv id_spec_l1Atom [a0] H =
 (lpW' spec_l1Atom_l2 [a0, (.int .i64 0)] H).bind fun r12 =>
 inN r12.1 [
 gotV 1 r12.2.1 fun v13 =>
 (qc id_spec_l1Letter [(frz r12.2.2 (v13 0))]).bind fun x15 =>
 some (x15, r12.2.2),
 gotV 1 r12.2.1 fun v17 =>
 some ((v17 0), r12.2.2)] := (callV_eq vb _ _ _ rfl).trans (by kernel_rfl)
theorem spec_l1Letter_eq (a0 : V) (H : VH) : cv id_spec_l1Letter [a0] H =
 (vBinV (.int .u8) .geq a0 (.int .u8 97)).bind fun x2 =>
 ifGV x2 (
 (vBinV (.int .u8) .leq (strip a0) (.int .u8 122)).bind fun x5 =>
 ifGV x5 (
 some ((.bool true), H)) (
 (vBinV (.int .u8) .geq (strip (strip a0)) (.int .u8 65)).bind fun x13 =>
 ifGV x13 (
 (vBinV (.int .u8) .leq (strip (strip (strip a0))) (.int .u8 90)).bind fun x16 =>
 ifGV x16 (
 some ((.bool true), H)) (
 (vBinV (.int .u8) .geq (strip (strip (strip (strip a0)))) (.int .u8 48)).bind fun x23 =>
 ifGV x23 (
 (vBinV (.int .u8) .leq (strip (strip (strip (strip (strip a0))))) (.int .u8 57)).bind fun x26 =>
 some (x26, H)) (
 some ((.bool false), H)))) (
 (vBinV (.int .u8) .geq (strip (strip (strip a0))) (.int .u8 48)).bind fun x37 =>
 ifGV x37 (
 (vBinV (.int .u8) .leq (strip (strip (strip (strip a0)))) (.int .u8 57)).bind fun x40 =>
 some (x40, H)) (
 some ((.bool false), H))))) (
 (vBinV (.int .u8) .geq (strip a0) (.int .u8 65)).bind fun x50 =>
 ifGV x50 (
 (vBinV (.int .u8) .leq (strip (strip a0)) (.int .u8 90)).bind fun x53 =>
 ifGV x53 (
 some ((.bool true), H)) (
 (vBinV (.int .u8) .geq (strip (strip (strip a0))) (.int .u8 48)).bind fun x60 =>
 ifGV x60 (
 (vBinV (.int .u8) .leq (strip (strip (strip (strip a0)))) (.int .u8 57)).bind fun x63 =>
 some (x63, H)) (
 some ((.bool false), H)))) (
 (vBinV (.int .u8) .geq (strip (strip a0)) (.int .u8 48)).bind fun x74 =>
 ifGV x74 (
 (vBinV (.int .u8) .leq (strip (strip (strip a0))) (.int .u8 57)).bind fun x77 =>
 some (x77, H)) (
 some ((.bool false), H)))) := (callV_eq vb _ _ _ rfl).trans (by kernel_rfl)
noncomputable def spec_l2Domain_l9 : List V -> VH -> Option (Option Nat × List V × VH) := roundV (vb.ctx cv lpW') (vb.b.ann 49) (vb.takes 49) ⟨⟨[0, 3, 4, 5, 6], [], []⟩, [(.exit 2, ⟨[0, 3, 4], [], []⟩), (.ret, ⟨[2], [], []⟩)]⟩ (loopIn Tryz.f49 9)
noncomputable def spec_l2Domain_l3 : List V -> VH -> Option (Option Nat × List V × VH) := roundV (vb.ctx cv lpW') (vb.b.ann 49) (vb.takes 49) ⟨⟨[0, 3, 4], [], []⟩, [(.exit 0, ⟨[0], [], []⟩), (.ret, ⟨[2], [], []⟩)]⟩ (loopIn Tryz.f49 3)
theorem spec_l2Domain_l9_eq (v0 v1 v2 v3 v4 : V) (H : VH) : spec_l2Domain_l9 [v0, v1, v2, v3, v4] H =
 (vLenSV v3).bind fun x43 =>
 (vBinV (.int .i64) .lss v4 x43).bind fun x44 =>
 ifVV x44 (
 (id (
 (vIndexSV (strip v3) (strip v4)).bind fun x47 =>
 (qc id_spec_l1Letter [(frz H x47)]).bind fun x48 =>
 (vUnV .not x48).bind fun x49 =>
 ifGV x49 (
 (vIndexSV (strip (strip v3)) (strip (strip v4))).bind fun x53 =>
 (vBinV (.int .u8) .neq x53 (.int .u8 45)).bind fun x54 =>
 ifGV x54 (
 some (0, [(.bool false)], H)) (
 (vIndexSV (strip (strip (strip v3))) (strip (strip (strip v4)))).bind fun x61 =>
 (vBinV (.int .u8) .geq x61 (.int .u8 65)).bind fun x62 =>
 ifGV x62 (
 (vIndexSV (strip (strip (strip (strip v3)))) (strip (strip (strip (strip v4))))).bind fun x66 =>
 (vBinV (.int .u8) .leq x66 (.int .u8 90)).bind fun x67 =>
 ifVV x67 (
 some (0, [(.bool false)], H)) (
 some (1, [v0, v1, v2, (strip (strip (strip (strip (strip v3))))), (strip (strip (strip (strip (strip v4)))))], H))) (
 some (1, [v0, v1, v2, (strip (strip (strip (strip v3)))), (strip (strip (strip (strip v4))))], H)))) (
 (vIndexSV (strip (strip v3)) (strip (strip v4))).bind fun x77 =>
 (vBinV (.int .u8) .geq x77 (.int .u8 65)).bind fun x78 =>
 ifGV x78 (
 (vIndexSV (strip (strip (strip v3))) (strip (strip (strip v4)))).bind fun x82 =>
 (vBinV (.int .u8) .leq x82 (.int .u8 90)).bind fun x83 =>
 ifVV x83 (
 some (0, [(.bool false)], H)) (
 some (1, [v0, v1, v2, (strip (strip (strip (strip v3)))), (strip (strip (strip (strip v4))))], H))) (
 some (1, [v0, v1, v2, (strip (strip (strip v3))), (strip (strip (strip v4)))], H))) : Option (Nat × List V × VH))).bind fun r89 =>
 inN r89.1 [
 gotV 1 r89.2.1 fun v90 =>
 some (some 1, [(v90 0)], r89.2.2),
 gotV 5 r89.2.1 fun v91 =>
 (vBinV (.int .i64) .add (v91 4) (.int .i64 1)).bind fun x93 =>
 some (none, [(v91 0), (v91 1), (v91 2), (v91 3), x93], r89.2.2)]) (
 some (some 0, [v0, v1, v2], H)) := by kernel_rfl
theorem spec_l2Domain_l3_eq (v0 v1 v2 : V) (H : VH) : spec_l2Domain_l3 [v0, v1, v2] H =
 (vLenVV (strip v1)).bind fun x7 =>
 (vBinV (.int .i64) .lss v2 x7).bind fun x8 =>
 ifVV x8 (
 (id (
 (vIdxV 1 (strip v1) (strip v2)).bind fun x11 =>
 (ldO globB false false 1 x11 H).bind fun r13 =>
 (id (
 (vBinV .str .eql r13.1 (.str [])).bind fun x16 =>
 ifGV x16 (
 some (0, [(.bool false)], r13.2)) (
 (vIndexSV (strip r13.1) (.int .i64 0)).bind fun x23 =>
 (vBinV (.int .u8) .eql x23 (.int .u8 45)).bind fun x24 =>
 ifGV x24 (
 some (0, [(.bool false)], r13.2)) (
 (vLenSV (strip (strip (strip r13.1)))).bind fun x31 =>
 (vBinV (.int .i64) .sub x31 (.int .i64 1)).bind fun x32 =>
 (vIndexSV (strip (strip r13.1)) x32).bind fun x33 =>
 (vBinV (.int .u8) .eql x33 (.int .u8 45)).bind fun x34 =>
 ifVV x34 (
 some (0, [(.bool false)], r13.2)) (
 some (1, [v0, v1, (strip (strip v2)), (strip (strip (strip (strip r13.1))))], r13.2)))) : Option (Nat × List V × VH))).bind fun r37 =>
 inN r37.1 [
 gotV 1 r37.2.1 fun v38 =>
 some (0, [(v38 0)], r37.2.2),
 gotV 4 r37.2.1 fun v39 =>
 (lpW' spec_l2Domain_l9 [(v39 0), (v39 1), (v39 2), (v39 3), (.int .i64 0)] r37.2.2).bind fun r95 =>
 inN r95.1 [
 gotV 3 r95.2.1 fun v96 =>
 some (1, [(v96 0), (v96 1), (v96 2)], r95.2.2),
 gotV 1 r95.2.1 fun v97 =>
 some (0, [(v97 0)], r95.2.2)]] : Option (Nat × List V × VH))).bind fun r98 =>
 inN r98.1 [
 gotV 1 r98.2.1 fun v99 =>
 some (some 1, [(v99 0)], r98.2.2),
 gotV 3 r98.2.1 fun v100 =>
 (vBinV (.int .i64) .add (v100 2) (.int .i64 1)).bind fun x102 =>
 some (none, [(v100 0), (v100 1), x102], r98.2.2)]) (
 some (some 0, [v0], H)) := by kernel_rfl
theorem spec_l2Domain_eq (a0 : V) (H : VH) : cv id_spec_l2Domain [a0] H =
 (pc id_spec_l2Parts [(frz H a0), (frz H (.int .u8 46))]).bind fun x2 =>
 (lpW' spec_l2Domain_l3 [(strip a0), (strip x2), (.int .i64 0)] H).bind fun r104 =>
 inN r104.1 [
 gotV 1 r104.2.1 fun v105 =>
 (vLenSV (v105 0)).bind fun x107 =>
 (vBinV (.int .i64) .leq x107 (.int .i64 40)).bind fun x108 =>
 some (x108, r104.2.2),
 gotV 1 r104.2.1 fun v110 =>
 some ((v110 0), r104.2.2)] := (callV_eq vb _ _ _ rfl).trans (by kernel_rfl)
theorem spec_MailValid_eq (a0 : V) (H : VH) : cv id_spec_MailValid [a0] H =
 (aggNV 3 a0).bind fun c1 =>
 (qc id_spec_l10Draft [(frz H (.agg [(strip (c1.getD 0 .nilp)), (strip (c1.getD 1 .nilp)), (strip (c1.getD 2 .nilp))]))]).bind fun x4 =>
 ifGV x4 (
 (vLenVV (strip (c1.getD 1 .nilp))).bind fun x8 =>
 (vBinV (.int .i64) .gtr x8 (.int .i64 0)).bind fun x9 =>
 ifGV x9 (
 (vLenVV (strip (c1.getD 2 .nilp))).bind fun x14 =>
 (vBinV (.int .i64) .leq x14 (.int .i64 30)).bind fun x15 =>
 some (x15, H)) (
 some ((.bool false), H))) (
 some ((.bool false), H)) := (callV_eq vb _ _ _ rfl).trans (by kernel_rfl)
noncomputable def spec_l10Draft_l4 : List V -> VH -> Option (Option Nat × List V × VH) := roundV (vb.ctx cv lpW') (vb.b.ann 95) (vb.takes 95) ⟨⟨[3], [(1, (1, 0))], [(1, 3)]⟩, [(.exit 0, ⟨[], [(1, (1, 0))], [(1, 3)]⟩), (.ret, ⟨[2], [], []⟩)]⟩ (loopIn Tryz.f95 4)
noncomputable def spec_l10Draft_l9 : List V -> VH -> Option (Option Nat × List V × VH) := roundV (vb.ctx cv lpW') (vb.b.ann 95) (vb.takes 95) ⟨⟨[4], [(1, (1, 0))], [(1, 3)]⟩, [(.exit 2, ⟨[], [], []⟩), (.ret, ⟨[2], [], []⟩)]⟩ (loopIn Tryz.f95 9)
theorem spec_l10Draft_l4_eq (v0 v1 v2 v3 : V) (H : VH) : spec_l10Draft_l4 [v0, v1, v2, v3] H =
 (vLenVV (strip v2)).bind fun x54 =>
 (vBinV (.int .i64) .lss v0 x54).bind fun x55 =>
 ifVV x55 (
 (vIdxV 1 (strip v2) (strip v0)).bind fun x59 =>
 (ldO globB false false 1 x59 H).bind fun r61 =>
 (qc id_spec_l10Box [(frz r61.2 r61.1)]).bind fun x62 =>
 (vUnV .not x62).bind fun x63 =>
 ifVV x63 (
 some (some 1, [(.bool false)], r61.2)) (
 (vBinV (.int .i64) .add (strip (strip v0)) (.int .i64 1)).bind fun x66 =>
 some (none, [x66, v1, v2, v3], r61.2))) (
 some (some 0, [v1, v2, v3], H)) := by kernel_rfl
theorem spec_l10Draft_l9_eq (v0 v1 v2 v3 : V) (H : VH) : spec_l10Draft_l9 [v0, v1, v2, v3] H =
 (vLenVV (strip v3)).bind fun x74 =>
 (vBinV (.int .i64) .lss v0 x74).bind fun x75 =>
 ifVV x75 (
 (vIdxV 1 (strip v3) (strip v0)).bind fun x79 =>
 (ldO globB false false 1 x79 H).bind fun r81 =>
 (qc id_spec_TextValid [(frz r81.2 r81.1)]).bind fun x82 =>
 (vUnV .not x82).bind fun x83 =>
 ifVV x83 (
 some (some 1, [(.bool false)], r81.2)) (
 (vBinV (.int .i64) .add (strip (strip v0)) (.int .i64 1)).bind fun x86 =>
 some (none, [x86, v1, v2, v3], r81.2))) (
 some (some 0, [], H)) := by kernel_rfl
theorem spec_l10Draft_eq (a0 : V) (H : VH) : cv id_spec_l10Draft [a0] H =
 (aggNV 3 a0).bind fun c1 =>
 (id (
 (vBinV .str .neq (strip (c1.getD 0 .nilp)) (.str [])).bind fun x5 =>
 ifGV x5 (
 (qc id_spec_l10Box [(frz H (strip (c1.getD 0 .nilp)))]).bind fun x9 =>
 (vUnV .not x9).bind fun x10 =>
 ifGV x10 (
 some (0, [(.bool false)], H)) (
 (vLenVV (strip (c1.getD 1 .nilp))).bind fun x19 =>
 (vBinV (.int .i64) .gtr x19 (.int .i64 10)).bind fun x20 =>
 ifGV x20 (
 some (0, [(.bool false)], H)) (
 (vLenVV (strip (c1.getD 2 .nilp))).bind fun x27 =>
 (vBinV (.int .i64) .gtr x27 (.int .i64 31)).bind fun x28 =>
 ifVV x28 (
 some (0, [(.bool false)], H)) (
 some (1, [(c1.getD 0 .nilp), (c1.getD 1 .nilp), (c1.getD 2 .nilp)], H))))) (
 (vLenVV (strip (c1.getD 1 .nilp))).bind fun x35 =>
 (vBinV (.int .i64) .gtr x35 (.int .i64 10)).bind fun x36 =>
 ifGV x36 (
 some (0, [(.bool false)], H)) (
 (vLenVV (strip (c1.getD 2 .nilp))).bind fun x43 =>
 (vBinV (.int .i64) .gtr x43 (.int .i64 31)).bind fun x44 =>
 ifVV x44 (
 some (0, [(.bool false)], H)) (
 some (1, [(c1.getD 0 .nilp), (c1.getD 1 .nilp), (c1.getD 2 .nilp)], H)))) : Option (Nat × List V × VH))).bind fun r47 =>
 inN r47.1 [
 gotV 1 r47.2.1 fun v48 =>
 some ((v48 0), r47.2.2),
 gotV 3 r47.2.1 fun v49 =>
 (lpW' spec_l10Draft_l4 [(.int .i64 0), (v49 0), (v49 1), (v49 2)] r47.2.2).bind fun r68 =>
 inN r68.1 [
 gotV 3 r68.2.1 fun v69 =>
 (lpW' spec_l10Draft_l9 [(.int .i64 0), (v69 0), (v69 1), (v69 2)] r68.2.2).bind fun r88 =>
 inN r88.1 [
 gotV 0 r88.2.1 fun v89 =>
 some ((.bool true), r88.2.2),
 gotV 1 r88.2.1 fun v91 =>
 some ((v91 0), r88.2.2)],
 gotV 1 r68.2.1 fun v92 =>
 some ((v92 0), r68.2.2)]] := (callV_eq vb _ _ _ rfl).trans (by kernel_rfl)
noncomputable def spec_l11Copy_l7 : List V -> VH -> Option (Option Nat × List V × VH) := roundV (vb.ctx cv lpW') (vb.b.ann 111) (vb.takes 111) ⟨⟨[0, 3, 4, 6], [(5, (5, 0))], [(5, 2)]⟩, [(.exit 2, ⟨[0, 3, 4], [(5, (5, 0))], [(5, 2)]⟩)]⟩ (loopIn Tryz.f111 7)
noncomputable def spec_l11Copy_l3 : List V -> VH -> Option (Option Nat × List V × VH) := roundV (vb.ctx cv lpW') (vb.b.ann 111) (vb.takes 111) ⟨⟨[0, 3, 4], [], []⟩, [(.exit 0, ⟨[3], [], []⟩)]⟩ (loopIn Tryz.f111 3)
theorem spec_l11Copy_l7_eq (v0 v1 v2 v3 v4 v5 : V) (H : VH) : spec_l11Copy_l7 [v0, v1, v2, v3, v4, v5] H =
 (vIdxV 2 (strip v0) v2).bind fun x22 =>
 (vOffV x22 1).bind fun x23 =>
 (ldO globB false false 1 x23 H).bind fun r25 =>
 (vLenVV r25.1).bind fun x26 =>
 (vBinV (.int .i64) .lss v3 x26).bind fun x27 =>
 ifVV x27 (
 (vIdxV 2 (strip v0) (strip v2)).bind fun x32 =>
 (vOffV x32 1).bind fun x33 =>
 (ldO globB false false 1 x33 r25.2).bind fun r35 =>
 (vIdxV 3 r35.1 (strip v3)).bind fun x37 =>
 (ldO globB false true 3 x37 r35.2).bind fun r39 =>
 (pc id_spec_l10Mail [(frz r39.2 r39.1)]).bind fun x40 =>
 (aggNV 3 x40).bind fun c42 =>
 (ownV v5).bind fun s44 =>
 (appV false 3 64 s44 (.sl true [[(c42.getD 0 .nilp), (c42.getD 1 .nilp), (c42.getD 2 .nilp)]])).bind fun x43 =>
 (vOneV x43).bind fun y47 =>
 (vBinV (.int .i64) .add (strip (strip v3)) (.int .i64 1)).bind fun x49 =>
 some (none, [v0, v1, (strip (strip v2)), x49, v4, y47], r39.2)) (
 some (some 0, [v0, v1, (strip v2), v4, v5], r25.2)) := by kernel_rfl
theorem spec_l11Copy_l3_eq (v0 v1 v2 : V) (H : VH) : spec_l11Copy_l3 [v0, v1, v2] H =
 (vLenVV (strip v0)).bind fun x6 =>
 (vBinV (.int .i64) .lss v2 x6).bind fun x7 =>
 ifVV x7 (
 (vIdxV 2 (strip v0) (strip v2)).bind fun x10 =>
 (vOffV x10 0).bind fun x11 =>
 (ldO globB false false 1 x11 H).bind fun r13 =>
 (vOneV r13.1).bind fun y15 =>
 (lpW' spec_l11Copy_l7 [v0, v1, (strip (strip v2)), (.int .i64 0), y15, (.sl true [])] r13.2).bind fun r51 =>
 inN r51.1 [
 gotV 5 r51.2.1 fun v52 =>
 (ownV (v52 1)).bind fun s57 =>
 (appV false 2 40 s57 (.sl true [[(v52 3), (v52 4)]])).bind fun x56 =>
 (vBinV (.int .i64) .add (v52 2) (.int .i64 1)).bind fun x60 =>
 some (none, [(v52 0), x56, x60], r51.2.2)]) (
 some (some 0, [v1], H)) := by kernel_rfl
theorem spec_l11Copy_eq (a0 : V) (H : VH) : cv id_spec_l11Copy [a0] H =
 (lpW' spec_l11Copy_l3 [a0, (.sl true []), (.int .i64 0)] H).bind fun r62 =>
 inN r62.1 [
 gotV 1 r62.2.1 fun v63 =>
 some ((v63 0), r62.2.2)] := (callV_eq vb _ _ _ rfl).trans (by kernel_rfl)
theorem spec_l10Mail_eq (a0 : V) (H : VH) : cv id_spec_l10Mail [a0] H =
 (aggNV 3 a0).bind fun c1 =>
 (appV false 1 16 [] (c1.getD 1 .nilp)).bind fun x8 =>
 (appV false 1 16 [] (c1.getD 2 .nilp)).bind fun x12 =>
 (vOneV (strip (c1.getD 0 .nilp))).bind fun y14 =>
 (vOneV x8).bind fun y15 =>
 (vOneV x12).bind fun y16 =>
 some ((.agg [y14, y15, y16]), H) := (callV_eq vb _ _ _ rfl).trans (by kernel_rfl)
noncomputable def spec_l13OwnListBox_l3 : List V -> VH -> Option (Option Nat × List V × VH) := roundV (vb.ctx cv lpW') (vb.b.ann 58) (vb.takes 58) ⟨⟨[3, 7, 8, 9], [], []⟩, [(.exit 0, ⟨[3], [], []⟩)]⟩ (loopIn Tryz.f58 3)
theorem spec_l13OwnListBox_l3_eq (v0 v1 v2 v3 : V) (H : VH) : spec_l13OwnListBox_l3 [v0, v1, v2, v3] H =
 (vBinV (.int .i64) .lss v3 v2).bind fun x6 =>
 ifVV x6 (
 (vIdxV 2 v1 v3).bind fun x7 =>
 (ldO globB false true 2 x7 H).bind fun r9 =>
 (aggNV 2 r9.1).bind fun c12 =>
 (pc id_spec_l13OwnBox [(frz r9.2 (.agg [(strip (c12.getD 0 .nilp)), (strip (c12.getD 1 .nilp))]))]).bind fun x15 =>
 (aggNV 2 x15).bind fun c17 =>
 (ownV v0).bind fun s19 =>
 (appV false 2 40 s19 (.sl true [[(c17.getD 0 .nilp), (c17.getD 1 .nilp)]])).bind fun x18 =>
 (vBinV (.int .i64) .add v3 (.int .i64 1)).bind fun x21 =>
 some (none, [x18, v1, v2, x21], r9.2)) (
 some (some 0, [v0], H)) := by kernel_rfl
theorem spec_l13OwnListBox_eq (a0 : V) (H : VH) : cv id_spec_l13OwnListBox [a0] H =
 (vLenVV (strip a0)).bind fun x4 =>
 (lpW' spec_l13OwnListBox_l3 [(.sl true []), (strip a0), x4, (.int .i64 0)] H).bind fun r23 =>
 inN r23.1 [
 gotV 1 r23.2.1 fun v24 =>
 some ((v24 0), r23.2.2)] := (callV_eq vb _ _ _ rfl).trans (by kernel_rfl)
theorem spec_l13OwnBox_eq (a0 : V) (H : VH) : cv id_spec_l13OwnBox [a0] H =
 (aggNV 2 a0).bind fun c1 =>
 (pc id_spec_l13OwnListMail [(frz H (strip (c1.getD 1 .nilp)))]).bind fun x5 =>
 (vOneV x5).bind fun y8 =>
 some ((.agg [(c1.getD 0 .nilp), y8]), H) := (callV_eq vb _ _ _ rfl).trans (by kernel_rfl)
noncomputable def spec_l13OwnListMail_l3 : List V -> VH -> Option (Option Nat × List V × VH) := roundV (vb.ctx cv lpW') (vb.b.ann 140) (vb.takes 140) ⟨⟨[3, 7, 8, 9], [], []⟩, [(.exit 0, ⟨[3], [], []⟩)]⟩ (loopIn Tryz.f140 3)
theorem spec_l13OwnListMail_l3_eq (v0 v1 v2 v3 : V) (H : VH) : spec_l13OwnListMail_l3 [v0, v1, v2, v3] H =
 (vBinV (.int .i64) .lss v3 v2).bind fun x6 =>
 ifVV x6 (
 (vIdxV 3 v1 v3).bind fun x7 =>
 (ldO globB false true 3 x7 H).bind fun r9 =>
 (aggNV 3 r9.1).bind fun c12 =>
 (pc id_spec_l13OwnMail [(frz r9.2 (.agg [(strip (c12.getD 0 .nilp)), (strip (c12.getD 1 .nilp)), (strip (c12.getD 2 .nilp))]))]).bind fun x15 =>
 (aggNV 3 x15).bind fun c17 =>
 (ownV v0).bind fun s19 =>
 (appV false 3 64 s19 (.sl true [[(c17.getD 0 .nilp), (c17.getD 1 .nilp), (c17.getD 2 .nilp)]])).bind fun x18 =>
 (vBinV (.int .i64) .add v3 (.int .i64 1)).bind fun x21 =>
 some (none, [x18, v1, v2, x21], r9.2)) (
 some (some 0, [v0], H)) := by kernel_rfl
theorem spec_l13OwnListMail_eq (a0 : V) (H : VH) : cv id_spec_l13OwnListMail [a0] H =
 (vLenVV (strip a0)).bind fun x4 =>
 (lpW' spec_l13OwnListMail_l3 [(.sl true []), (strip a0), x4, (.int .i64 0)] H).bind fun r23 =>
 inN r23.1 [
 gotV 1 r23.2.1 fun v24 =>
 some ((v24 0), r23.2.2)] := (callV_eq vb _ _ _ rfl).trans (by kernel_rfl)
theorem spec_l13OwnMail_eq (a0 : V) (H : VH) : cv id_spec_l13OwnMail [a0] H =
 (aggNV 3 a0).bind fun c1 =>
 (appV false 1 16 [] (c1.getD 1 .nilp)).bind fun x6 =>
 (vOneV x6).bind fun y9 =>
 (appV false 1 16 [] (c1.getD 2 .nilp)).bind fun x13 =>
 (vOneV x13).bind fun y16 =>
 some ((.agg [(c1.getD 0 .nilp), y9, y16]), H) := (callV_eq vb _ _ _ rfl).trans (by kernel_rfl)
theorem impl_TakeMail_eq (a0 a1 : V) (H : VH) : cv id_impl_TakeMail [a0, a1] H =
 (qco id_impl_boxPlace H [(strip a0), a1]).bind fun x5 =>
 (vExtV x5 0).bind fun x7 =>
 (vExtV x5 1).bind fun x8 =>
 (id (
 (qco id_impl_BoxesValid H [(strip a0)]).bind fun x12 =>
 (vUnV .not x12).bind fun x13 =>
 ifGV x13 (
 some (0, [(.sl true []), (.bool false), (.str []), (.sl true []), (.sl true [])], H)) (
 (vUnV .not (strip x8)).bind fun x23 =>
 ifGV x23 (
 some (0, [(.sl true []), (.bool false), (.str []), (.sl true []), (.sl true [])], H)) (
 (vIdxV 2 (strip a0) (strip x7)).bind fun x33 =>
 (vOffV x33 1).bind fun x34 =>
 (ldO globB false false 1 x34 H).bind fun r36 =>
 (vLenVV r36.1).bind fun x37 =>
 (vBinV (.int .i64) .eql x37 (.int .i64 0)).bind fun x38 =>
 ifVV x38 (
 some (0, [(.sl true []), (.bool false), (.str []), (.sl true []), (.sl true [])], r36.2)) (
 some (1, [a0, (strip (strip x7)), (.str []), (.sl true []), (.sl true [])], r36.2)))) : Option (Nat × List V × VH))).bind fun r44 =>
 inN r44.1 [
 gotV 5 r44.2.1 fun v45 =>
 some ((.tup [(v45 0), (.agg [(v45 2), (v45 3), (v45 4)]), (v45 1)]), r44.2.2),
 gotV 5 r44.2.1 fun v46 =>
 (pco id_impl_copyBoxes r44.2.2 [(strip (v46 0))]).bind fun x48 =>
 promB 2 x48 r44.2.2 fun o49 h50 =>
 (vIdxV 2 (strip o49) (v46 1)).bind fun x54 =>
 (vOffV x54 1).bind fun x55 =>
 (ldO globB false false 1 x55 h50).bind fun r57 =>
 (vIdxV 3 r57.1 (.int .i64 0)).bind fun x58 =>
 (ldO globB true true 3 x58 r57.2).bind fun r60 =>
 (aggNV 3 r60.1).bind fun c63 =>
 (vIdxV 2 (strip o49) (strip (strip (v46 1)))).bind fun x68 =>
 (vOffV x68 1).bind fun x69 =>
 (ldO globB false false 1 x69 r60.2).bind fun r71 =>
 (cv id_slices_Delete___impl_Mail_impl_Mail_ [(strip r71.1), (.int .i64 0), (.int .i64 1)] r71.2).bind fun r73 =>
 (vIdxV 2 (strip o49) (strip (v46 1))).bind fun x74 =>
 (vOffV x74 1).bind fun x75 =>
 (vOneV r73.1).bind fun y77 =>
 (stO x75 [y77] r73.2).bind fun H78 =>
 some ((.tup [o49, (.agg [(c63.getD 0 .nilp), (c63.getD 1 .nilp), (c63.getD 2 .nilp)]), (.bool true)]), H78)] := (callV_eq vb _ _ _ rfl).trans (by kernel_rfl)
theorem impl_boxPlace_eq (a0 a1 : V) (H : VH) : cv id_impl_boxPlace [a0, a1] H =
 (qc id_slices_BinarySearchFunc___impl_Box_impl_Box_string_ [(frz H (strip a0)), (frz H a1), (frz H (.fn id_impl_boxPlace_1 []))]).bind fun x4 =>
 (vExtV x4 0).bind fun x5 =>
 (vExtV x4 1).bind fun x6 =>
 some ((.tup [(strip x5), (strip x6)]), H) := (callV_eq vb _ _ _ rfl).trans (by kernel_rfl)
noncomputable def slices_BinarySearchFunc___impl_Box_impl_Box_string__l3 : List V -> VH -> Option (Option Nat × List V × VH) := roundV (vb.ctx cv lpW') (vb.b.ann 114) (vb.takes 114) ⟨⟨[0, 1, 2, 8, 9, 10], [], []⟩, [(.exit 0, ⟨[0, 1, 2, 8, 9], [], []⟩)]⟩ (loopIn Tryz.f114 3)
theorem slices_BinarySearchFunc___impl_Box_impl_Box_string__l3_eq (v0 v1 v2 v3 v4 v5 : V) (H : VH) : slices_BinarySearchFunc___impl_Box_impl_Box_string__l3 [v0, v1, v2, v3, v4, v5] H =
 (vBinV (.int .i64) .lss v4 v5).bind fun x10 =>
 ifVV x10 (
 (vBinV (.int .i64) .add (strip v4) (strip v5)).bind fun x13 =>
 (vConvV .u64 x13).bind fun x14 =>
 (vBinV (.int .u64) .shr x14 (.int .u64 1)).bind fun x15 =>
 (vConvV .i64 x15).bind fun x16 =>
 (vIdxV 2 (strip v0) x16).bind fun x21 =>
 (ldO globB false true 2 x21 H).bind fun r23 =>
 (calleeV v2).bind fun p26 =>
 (qc p26.1 ((([r23.1, v1] : List V) ++ p26.2).map (frz r23.2))).bind fun x25 =>
 (vBinV (.int .i64) .lss x25 (.int .i64 0)).bind fun x27 =>
 ifVV x27 (
 (vBinV (.int .i64) .add (strip x16) (.int .i64 1)).bind fun x29 =>
 some (none, [v0, (strip v1), (strip v2), v3, x29, (strip (strip v5))], r23.2)) (
 some (none, [v0, (strip v1), (strip v2), v3, (strip (strip v4)), (strip x16)], r23.2))) (
 some (some 0, [v0, v1, v2, v3, (strip v4)], H)) := by kernel_rfl
theorem slices_BinarySearchFunc___impl_Box_impl_Box_string__eq (a0 a1 a2 : V) (H : VH) : cv id_slices_BinarySearchFunc___impl_Box_impl_Box_string_ [a0, a1, a2] H =
 (vLenVV (strip a0)).bind fun x3 =>
 (lpW' slices_BinarySearchFunc___impl_Box_impl_Box_string__l3 [a0, a1, a2, (strip x3), (.int .i64 0), x3] H).bind fun r33 =>
 inN r33.1 [
 gotV 5 r33.2.1 fun v34 =>
 (vBinV (.int .i64) .lss (strip (v34 4)) (v34 3)).bind fun x38 =>
 ifGV x38 (
 (vIdxV 2 (strip (v34 0)) (strip (strip (v34 4)))).bind fun x43 =>
 (ldO globB false true 2 x43 r33.2.2).bind fun r45 =>
 (calleeV (v34 2)).bind fun p48 =>
 (qc p48.1 ((([r45.1, (v34 1)] : List V) ++ p48.2).map (frz r45.2))).bind fun x47 =>
 (vBinV (.int .i64) .eql x47 (.int .i64 0)).bind fun x49 =>
 some ((.tup [(v34 4), x49]), r45.2)) (
 some ((.tup [(v34 4), (.bool false)]), r33.2.2))] := (callV_eq vb _ _ _ rfl).trans (by kernel_rfl)
theorem impl_boxPlace_1_eq (a0 a1 : V) (H : VH) : cv id_impl_boxPlace_1 [a0, a1] H =
 (aggNV 2 a0).bind fun c1 =>
 (qc id_cmp_Compare_string_ [(frz H (strip (c1.getD 0 .nilp))), (frz H a1)]).bind fun x6 =>
 some (x6, H) := (callV_eq vb _ _ _ rfl).trans (by kernel_rfl)
theorem cmp_Compare_string__eq (a0 a1 : V) (H : VH) : cv id_cmp_Compare_string_ [a0, a1] H =
 (qc id_cmp_isNaN_string_ [(frz H a0)]).bind fun x2 =>
 (qc id_cmp_isNaN_string_ [(frz H a1)]).bind fun x5 =>
 ifVV x2 (
 ifVV x5 (
 some ((.int .i64 0), H)) (
 some ((.int .i64 (-1)), H))) (
 ifVV x5 (
 some ((.int .i64 1), H)) (
 (vBinV .str .lss (strip a0) (strip a1)).bind fun x15 =>
 ifVV x15 (
 some ((.int .i64 (-1)), H)) (
 (vBinV .str .gtr (strip (strip a0)) (strip (strip a1))).bind fun x19 =>
 ifVV x19 (
 some ((.int .i64 1), H)) (
 some ((.int .i64 0), H))))) := (callV_eq vb _ _ _ rfl).trans (by kernel_rfl)
theorem cmp_isNaN_string__eq (a0 : V) (H : VH) : cv id_cmp_isNaN_string_ [a0] H =
 (vBinV .str .neq a0 (strip a0)).bind fun x3 =>
 some (x3, H) := (callV_eq vb _ _ _ rfl).trans (by kernel_rfl)
noncomputable def impl_BoxesValid_l2 : List V -> VH -> Option (Option Nat × List V × VH) := roundV (vb.ctx cv lpW') (vb.b.ann 62) (vb.takes 62) ⟨⟨[0, 5, 6, 7], [], []⟩, [(.exit 0, ⟨[0], [], []⟩), (.ret, ⟨[2], [], []⟩)]⟩ (loopIn Tryz.f62 2)
theorem impl_BoxesValid_l2_eq (v0 v1 v2 v3 : V) (H : VH) : impl_BoxesValid_l2 [v0, v1, v2, v3] H =
 (vBinV (.int .i64) .lss v3 v2).bind fun x4 =>
 ifVV x4 (
 (vIdxV 2 v1 (strip v3)).bind fun x6 =>
 (ldO globB false true 2 x6 H).bind fun r8 =>
 (aggNV 2 r8.1).bind fun c12 =>
 (qc id_impl_isPath [(frz r8.2 (strip (c12.getD 0 .nilp)))]).bind fun x15 =>
 (vUnV .not x15).bind fun x16 =>
 ifGV x16 (
 some (some 1, [(.bool false)], r8.2)) (
 (qc id_impl_mailsValid [(frz r8.2 (strip (c12.getD 1 .nilp))), (frz r8.2 (.int .i64 4))]).bind fun x24 =>
 (vUnV .not x24).bind fun x25 =>
 ifGV x25 (
 some (some 1, [(.bool false)], r8.2)) (
 (vBinV (.int .i64) .gtr v3 (.int .i64 0)).bind fun x31 =>
 ifGV x31 (
 (vBinV (.int .i64) .sub (strip v3) (.int .i64 1)).bind fun x35 =>
 (vIdxV 2 (strip v0) x35).bind fun x36 =>
 (vOffV x36 0).bind fun x37 =>
 (ldO globB false false 1 x37 r8.2).bind fun r39 =>
 (vBinV .str .geq r39.1 (strip (c12.getD 0 .nilp))).bind fun x42 =>
 ifVV x42 (
 some (some 1, [(.bool false)], r39.2)) (
 (vBinV (.int .i64) .add (strip v3) (.int .i64 1)).bind fun x46 =>
 some (none, [v0, v1, v2, x46], r39.2))) (
 (vBinV (.int .i64) .add (strip v3) (.int .i64 1)).bind fun x50 =>
 some (none, [v0, v1, v2, x50], r8.2))))) (
 some (some 0, [v0], H)) := by kernel_rfl
theorem impl_BoxesValid_eq (a0 : V) (H : VH) : cv id_impl_BoxesValid [a0] H =
 (vLenVV (strip a0)).bind fun x2 =>
 (lpW' impl_BoxesValid_l2 [a0, (strip a0), x2, (.int .i64 0)] H).bind fun r52 =>
 inN r52.1 [
 gotV 1 r52.2.1 fun v53 =>
 (vLenVV (strip (v53 0))).bind fun x55 =>
 (vBinV (.int .i64) .leq x55 (.int .i64 8)).bind fun x56 =>
 some (x56, r52.2.2),
 gotV 1 r52.2.1 fun v58 =>
 some ((v58 0), r52.2.2)] := (callV_eq vb _ _ _ rfl).trans (by kernel_rfl)
theorem impl_isPath_eq (a0 : V) (H : VH) : cv id_impl_isPath [a0] H =
 (qc id_strings_Cut [(frz H a0), (frz H (.str [64]))]).bind fun x2 =>
 (vExtV x2 0).bind fun x4 =>
 (vExtV x2 1).bind fun x5 =>
 (vExtV x2 2).bind fun x6 =>
 ifGV (strip x6) (
 (qc id_impl_isLocal [(frz H (strip x4))]).bind fun x13 =>
 ifGV x13 (
 (qc id_impl_isDomain [(frz H (strip x5))]).bind fun x17 =>
 some (x17, H)) (
 some ((.bool false), H))) (
 some ((.bool false), H)) := (callV_eq vb _ _ _ rfl).trans (by kernel_rfl)
theorem strings_Cut_eq (a0 a1 : V) (H : VH) : cv id_strings_Cut [a0, a1] H =
 (qc id_internal_stringslite_Cut [(frz H a0), (frz H a1)]).bind fun x5 =>
 (vExtV x5 0).bind fun x6 =>
 (vExtV x5 1).bind fun x7 =>
 (vExtV x5 2).bind fun x8 =>
 some ((.tup [(strip x6), (strip x7), (strip x8)]), H) := (callV_eq vb _ _ _ rfl).trans (by kernel_rfl)
theorem internal_stringslite_Cut_eq (a0 a1 : V) (H : VH) : cv id_internal_stringslite_Cut [a0, a1] H =
 (qc id_internal_stringslite_Index [(frz H a0), (frz H a1)]).bind fun x5 =>
 (vBinV (.int .i64) .geq x5 (.int .i64 0)).bind fun x8 =>
 ifVV x8 (
 (vSliceSV (strip a0) none (some (strip x5))).bind fun x11 =>
 (vLenSV (strip a1)).bind fun x15 =>
 (vBinV (.int .i64) .add (strip (strip x5)) x15).bind fun x16 =>
 (vSliceSV (strip (strip a0)) (some x16) none).bind fun x17 =>
 some ((.tup [x11, x17, (.bool true)]), H)) (
 some ((.tup [(strip a0), (.str []), (.bool false)]), H)) := (callV_eq vb _ _ _ rfl).trans (by kernel_rfl)
noncomputable def internal_stringslite_Index_l15 : List V -> VH -> Option (Option Nat × List V × VH) := roundV (vb.ctx cv lpW') (vb.b.ann 157) (vb.takes 157) ⟨⟨[0, 1, 5, 6, 7, 8, 9, 10], [], []⟩, [(.exit 1, ⟨[], [], []⟩), (.ret, ⟨[4], [], []⟩)]⟩ (loopIn Tryz.f157 15)
theorem internal_stringslite_Index_eq (a0 a1 : V) (H : VH) : cv id_internal_stringslite_Index [a0, a1] H =
 (vLenSV a1).bind fun x2 =>
 (id (
 (vBinV (.int .i64) .eql x2 (.int .i64 0)).bind fun x5 =>
 ifGV x5 (
 some (0, [(.int .i64 0)], H)) (
 (vBinV .str .eql (strip a1) a0).bind fun x12 =>
 ifVV x12 (
 some (0, [(.int .i64 0)], H)) (
 (vBinV (.int .i64) .eql (strip x2) (.int .i64 1)).bind fun x17 =>
 ifVV x17 (
 (vIndexSV (strip (strip a1)) (.int .i64 0)).bind fun x21 =>
 (qc id_internal_stringslite_IndexByte [(frz H (strip a0)), (frz H x21)]).bind fun x22 =>
 some (0, [x22], H)) (
 (vLenSV (strip a0)).bind fun x26 =>
 (vBinV (.int .i64) .geq (strip (strip x2)) x26).bind fun x27 =>
 ifVV x27 (
 some (0, [(.int .i64 (-1))], H)) (
 (ldO globB false false 1 (.gp 1 0) H).bind fun r32 =>
 (vBinV (.int .i64) .leq (strip (strip (strip x2))) r32.1).bind fun x33 =>
 ifGV x33 (
 (vLenSV (strip (strip a0))).bind fun x36 =>
 (vBinV (.int .i64) .leq x36 (.int .i64 64)).bind fun x37 =>
 ifVV x37 (
 (extB 2 [(strip (strip (strip a0))), (strip (strip a1))] fun x42 =>
  some (0, [x42], r32.2))) (
 some (1, [(strip (strip (strip a0))), (strip (strip a1)), (strip (strip (strip (strip x2))))], r32.2))) (
 some (1, [(strip (strip a0)), (strip (strip a1)), (strip (strip (strip (strip x2))))], r32.2)))))) : Option (Nat × List V × VH))).bind fun r46 =>
 inN r46.1 [
 gotV 1 r46.2.1 fun v47 =>
 some ((v47 0), r46.2.2),
 gotV 3 r46.2.1 fun v48 =>
 (vIndexSV (v48 1) (.int .i64 0)).bind fun x50 =>
 (vIndexSV (strip (v48 1)) (.int .i64 1)).bind fun x53 =>
 (vLenSV (v48 0)).bind fun x57 =>
 (vBinV (.int .i64) .sub x57 (v48 2)).bind fun x59 =>
 (vBinV (.int .i64) .add x59 (.int .i64 1)).bind fun x60 =>
 (lpW' internal_stringslite_Index_l15 [(strip (v48 0)), (strip (strip (v48 1))), (strip (v48 2)), x50, x53, (.int .i64 0), x60, (.int .i64 0)] r46.2.2).bind fun r208 =>
 inN r208.1 [
 gotV 0 r208.2.1 fun v209 =>
 some ((.int .i64 (-1)), r208.2.2),
 gotV 1 r208.2.1 fun v211 =>
 some ((v211 0), r208.2.2)]] := (callV_eq vb _ _ _ rfl).trans (by kernel_rfl)
theorem internal_stringslite_IndexByte_eq (a0 a1 : V) (H : VH) : cv id_internal_stringslite_IndexByte [a0, a1] H =
 (extB 0 [a0, a1] fun x3 =>
  some (x3, H)) := (callV_eq vb _ _ _ rfl).trans (by kernel_rfl)
noncomputable def internal_bytealg_IndexRabinKarp_string__l5 : List V -> VH -> Option (Option Nat × List V × VH) := roundV (vb.ctx cv lpW') (vb.b.ann 169) (vb.takes 169) ⟨⟨[0, 1, 5, 6, 7, 8, 9], [], []⟩, [(.exit 0, ⟨[0, 1, 5, 6, 7, 8], [], []⟩)]⟩ (loopIn Tryz.f169 5)
noncomputable def internal_bytealg_IndexRabinKarp_string__l11 : List V -> VH -> Option (Option Nat × List V × VH) := roundV (vb.ctx cv lpW') (vb.b.ann 169) (vb.takes 169) ⟨⟨[0, 1, 5, 6, 7, 8, 10], [], []⟩, [(.exit 2, ⟨[], [], []⟩), (.ret, ⟨[4], [], []⟩)]⟩ (loopIn Tryz.f169 11)
noncomputable def internal_bytealg_hashStr_string__l3 : List V -> VH -> Option (Option Nat × List V × VH) := roundV (vb.ctx cv lpW') (vb.b.ann 174) (vb.takes 174) ⟨⟨[0, 4, 5], [], []⟩, [(.exit 0, ⟨[0, 4], [], []⟩)]⟩ (loopIn Tryz.f174 3)
noncomputable def internal_bytealg_hashStr_string__l8 : List V -> VH -> Option (Option Nat × List V × VH) := roundV (vb.ctx cv lpW') (vb.b.ann 174) (vb.takes 174) ⟨⟨[4, 6, 7, 8], [], []⟩, [(.exit 2, ⟨[4, 6], [], []⟩)]⟩ (loopIn Tryz.f174 8)
theorem impl_isLocal_eq (a0 : V) (H : VH) : cv id_impl_isLocal [a0] H =
 (vLenSV a0).bind fun x2 =>
 (vBinV (.int .i64) .leq x2 (.int .i64 30)).bind fun x3 =>
 ifGV x3 (
 (pc id_strings_Split [(frz H (strip a0)), (frz H (.str [46]))]).bind fun x6 =>
 (qc id_slices_ContainsFunc___string_string_ [(frz H x6), (frz H (.fn id_impl_isLocal_1 []))]).bind fun x7 =>
 (vUnV .not x7).bind fun x8 =>
 some (x8, H)) (
 some ((.bool false), H)) := (callV_eq vb _ _ _ rfl).trans (by kernel_rfl)
theorem strings_Split_eq (a0 a1 : V) (H : VH) : cv id_strings_Split [a0, a1] H =
 (pc id_strings_genSplit [(frz H a0), (frz H a1), (frz H (.int .i64 0)), (frz H (.int .i64 (-1)))]).bind fun x3 =>
 some (x3, H) := (callV_eq vb _ _ _ rfl).trans (by kernel_rfl)
noncomputable def strings_genSplit_l11 : List V -> VH -> Option (Option Nat × List V × VH) := roundV (vb.ctx cv lpW') (vb.b.ann 129) (vb.takes 129) ⟨⟨[0, 1, 2, 3, 9, 10], [], []⟩, [(.exit 0, ⟨[0, 9, 10], [], []⟩)]⟩ (loopIn Tryz.f129 11)
theorem strings_genSplit_l11_eq (v0 v1 v2 v3 v4 v5 : V) (H : VH) : strings_genSplit_l11 [v0, v1, v2, v3, v4, v5] H =
 (vBinV (.int .i64) .lss v5 v3).bind fun x34 =>
 ifVV x34 (
 (qc id_strings_Index [(frz H v0), (frz H v1)]).bind fun x37 =>
 (vBinV (.int .i64) .lss x37 (.int .i64 0)).bind fun x40 =>
 ifVV x40 (
 some (some 0, [(strip v0), v4, (strip v5)], H)) (
 (vBinV (.int .i64) .add (strip x37) v2).bind fun x46 =>
 (vSliceSV (strip v0) none (some x46)).bind fun x47 =>
 (vIdxV 1 (strip v4) (strip v5)).bind fun x48 =>
 (vOneV x47).bind fun y50 =>
 (stO x48 [y50] H).bind fun H51 =>
 (vLenSV (strip v1)).bind fun x55 =>
 (vBinV (.int .i64) .add (strip (strip x37)) x55).bind fun x56 =>
 (vSliceSV (strip (strip v0)) (some x56) none).bind fun x57 =>
 (vBinV (.int .i64) .add (strip (strip v5)) (.int .i64 1)).bind fun x60 =>
 some (none, [x57, (strip (strip v1)), (strip v2), (strip v3), v4, x60], H51))) (
 some (some 0, [v0, v4, (strip v5)], H)) := by kernel_rfl
theorem strings_genSplit_eq (a0 a1 a2 a3 : V) (H : VH) : cv id_strings_genSplit [a0, a1, a2, a3] H =
 (vBinV (.int .i64) .eql a3 (.int .i64 0)).bind fun x2 =>
 ifVV x2 (
 some ((.sl true []), H)) (
 (vBinV .str .eql a1 (.str [])).bind fun x5 =>
 ifVV x5 (
 (pc id_strings_explode [(frz H a0), (frz H (strip a3))]).bind fun x8 =>
 some (x8, H)) (
 (id (
 (vBinV (.int .i64) .lss (strip a3) (.int .i64 0)).bind fun x11 =>
 ifVV x11 (
 (qc id_strings_Count [(frz H a0), (frz H (strip a1))]).bind fun x14 =>
 (vBinV (.int .i64) .add x14 (.int .i64 1)).bind fun x15 =>
 some (0, [(strip a0), (strip (strip a1)), a2, x15], H)) (
 some (0, [a0, (strip a1), a2, (strip (strip a3))], H)) : Option (Nat × List V × VH))).bind fun r17 =>
 inN r17.1 [
 gotV 4 r17.2.1 fun v18 =>
 (vLenSV (v18 0)).bind fun x21 =>
 (vBinV (.int .i64) .add x21 (.int .i64 1)).bind fun x22 =>
 (vMinV (v18 3) x22).bind fun x23 =>
 (mkLenV 16 x23 x23).bind fun x26 =>
 (vBinV (.int .i64) .sub (strip x23) (.int .i64 1)).bind fun x29 =>
 (lpW' strings_genSplit_l11 [(strip (v18 0)), (v18 1), (v18 2), x29, (.obs r17.2.2.length 0 x26.1 1), (.int .i64 0)] (r17.2.2 ++ [repV x26.2 [(.str [])]])).bind fun r62 =>
 inN r62.1 [
 gotV 3 r62.2.1 fun v63 =>
 (vIdxV 1 (strip (v63 1)) (v63 2)).bind fun x67 =>
 (vOneV (v63 0)).bind fun y69 =>
 (stO x67 [y69] r62.2.2).bind fun H70 =>
 (vBinV (.int .i64) .add (strip (v63 2)) (.int .i64 1)).bind fun x73 =>
 (vSliceVV 1 (strip (v63 1)) none (some x73)).bind fun x74 =>
 some (x74, H70)]])) := (callV_eq vb _ _ _ rfl).trans (by kernel_rfl)
noncomputable def strings_explode_l6 : List V -> VH -> Option (Option Nat × List V × VH) := roundV (vb.ctx cv lpW') (vb.b.ann 149) (vb.takes 149) ⟨⟨[0, 1, 6, 7], [], []⟩, [(.exit 0, ⟨[0, 1, 6], [], []⟩)]⟩ (loopIn Tryz.f149 6)
noncomputable def strings_Count_l6 : List V -> VH -> Option (Option Nat × List V × VH) := roundV (vb.ctx cv lpW') (vb.b.ann 150) (vb.takes 150) ⟨⟨[0, 1, 5], [], []⟩, [(.ret, ⟨[4], [], []⟩)]⟩ (loopIn Tryz.f150 6)
theorem strings_Count_eq (a0 a1 : V) (H : VH) : cv id_strings_Count [a0, a1] H =
 (vLenSV a1).bind fun x2 =>
 (vBinV (.int .i64) .eql x2 (.int .i64 0)).bind fun x3 =>
 ifVV x3 (
 (qc id_unicode_utf8_RuneCountInString [(frz H a0)]).bind fun x5 =>
 (vBinV (.int .i64) .add x5 (.int .i64 1)).bind fun x6 =>
 some (x6, H)) (
 (vLenSV (strip a1)).bind fun x9 =>
 (vBinV (.int .i64) .eql x9 (.int .i64 1)).bind fun x10 =>
 ifVV x10 (
 (vIndexSV (strip (strip a1)) (.int .i64 0)).bind fun x13 =>
 (extB 1 [a0, x13] fun x14 =>
  some (x14, H))) (
 (lpW' strings_Count_l6 [a0, (strip (strip a1)), (.int .i64 0)] H).bind fun r35 =>
 inN r35.1 [
 gotV 1 r35.2.1 fun v36 =>
 some ((v36 0), r35.2.2)])) := (callV_eq vb _ _ _ rfl).trans (by kernel_rfl)
theorem strings_Index_eq (a0 a1 : V) (H : VH) : cv id_strings_Index [a0, a1] H =
 (qc id_internal_stringslite_Index [(frz H a0), (frz H a1)]).bind fun x3 =>
 some (x3, H) := (callV_eq vb _ _ _ rfl).trans (by kernel_rfl)
theorem slices_ContainsFunc___string_string__eq (a0 a1 : V) (H : VH) : cv id_slices_ContainsFunc___string_string_ [a0, a1] H =
 (qc id_slices_IndexFunc___string_string_ [(frz H (strip a0)), (frz H a1)]).bind fun x3 =>
 (vBinV (.int .i64) .geq x3 (.int .i64 0)).bind fun x4 =>
 some (x4, H) := (callV_eq vb _ _ _ rfl).trans (by kernel_rfl)
noncomputable def slices_IndexFunc___string_string__l2 : List V -> VH -> Option (Option Nat × List V × VH) := roundV (vb.ctx cv lpW') (vb.b.ann 128) (vb.takes 128) ⟨⟨[0, 1, 7, 8], [], []⟩, [(.exit 0, ⟨[], [], []⟩), (.ret, ⟨[4], [], []⟩)]⟩ (loopIn Tryz.f128 2)
theorem slices_IndexFunc___string_string__l2_eq (v0 v1 v2 v3 : V) (H : VH) : slices_IndexFunc___string_string__l2 [v0, v1, v2, v3] H =
 (vBinV (.int .i64) .lss v3 v2).bind fun x4 =>
 ifVV x4 (
 (vIdxV 1 (strip v0) v3).bind fun x10 =>
 (ldO globB false false 1 x10 H).bind fun r12 =>
 (calleeV v1).bind fun p14 =>
 (qc p14.1 ((([r12.1] : List V) ++ p14.2).map (frz r12.2))).bind fun x13 =>
 ifVV x13 (
 some (some 1, [(strip v3)], r12.2)) (
 (vBinV (.int .i64) .add (strip v3) (.int .i64 1)).bind fun x17 =>
 some (none, [v0, (strip v1), v2, x17], r12.2))) (
 some (some 0, [], H)) := by kernel_rfl
theorem slices_IndexFunc___string_string__eq (a0 a1 : V) (H : VH) : cv id_slices_IndexFunc___string_string_ [a0, a1] H =
 (vLenVV (strip a0)).bind fun x2 =>
 (lpW' slices_IndexFunc___string_string__l2 [a0, a1, x2, (.int .i64 0)] H).bind fun r19 =>
 inN r19.1 [
 gotV 0 r19.2.1 fun v20 =>
 some ((.int .i64 (-1)), r19.2.2),
 gotV 1 r19.2.1 fun v22 =>
 some ((v22 0), r19.2.2)] := (callV_eq vb _ _ _ rfl).trans (by kernel_rfl)
theorem impl_isLocal_1_eq (a0 : V) (H : VH) : cv id_impl_isLocal_1 [a0] H =
 (qc id_impl_AtomValid [(frz H a0)]).bind fun x2 =>
 (vUnV .not x2).bind fun x3 =>
 some (x3, H) := (callV_eq vb _ _ _ rfl).trans (by kernel_rfl)
theorem impl_AtomValid_eq (a0 : V) (H : VH) : cv id_impl_AtomValid [a0] H =
 (vLenSV a0).bind fun x2 =>
 (vBinV (.int .i64) .geq x2 (.int .i64 1)).bind fun x3 =>
 ifGV x3 (
 (vLenSV (strip a0)).bind fun x6 =>
 (vBinV (.int .i64) .leq x6 (.int .i64 40)).bind fun x7 =>
 ifGV x7 (
 (qc id_impl_allBytes [(frz H (strip (strip a0))), (frz H (.fn id_impl_isAtomByte []))]).bind fun x11 =>
 some (x11, H)) (
 some ((.bool false), H))) (
 some ((.bool false), H)) := (callV_eq vb _ _ _ rfl).trans (by kernel_rfl)
noncomputable def impl_allBytes_l2 : List V -> VH -> Option (Option Nat × List V × VH) := roundV (vb.ctx cv lpW') (vb.b.ann 130) (vb.takes 130) ⟨⟨[0, 1, 7, 8], [], []⟩, [(.exit 0, ⟨[], [], []⟩), (.ret, ⟨[4], [], []⟩)]⟩ (loopIn Tryz.f130 2)
theorem impl_allBytes_l2_eq (v0 v1 v2 v3 : V) (H : VH) : impl_allBytes_l2 [v0, v1, v2, v3] H =
 (vBinV (.int .i64) .lss v3 v2).bind fun x4 =>
 ifVV x4 (
 (vIndexSV v0 v3).bind fun x10 =>
 (calleeV v1).bind fun p12 =>
 (qc p12.1 ((([x10] : List V) ++ p12.2).map (frz H))).bind fun x11 =>
 (vUnV .not x11).bind fun x13 =>
 ifVV x13 (
 some (some 1, [(.bool false)], H)) (
 (vBinV (.int .i64) .add (strip v3) (.int .i64 1)).bind fun x15 =>
 some (none, [(strip v0), (strip v1), v2, x15], H))) (
 some (some 0, [], H)) := by kernel_rfl
theorem impl_allBytes_eq (a0 a1 : V) (H : VH) : cv id_impl_allBytes [a0, a1] H =
 (vLenSV a0).bind fun x2 =>
 (lpW' impl_allBytes_l2 [(strip a0), a1, x2, (.int .i64 0)] H).bind fun r17 =>
 inN r17.1 [
 gotV 0 r17.2.1 fun v18 =>
 some ((.bool true), r17.2.2),
 gotV 1 r17.2.1 fun v20 =>
 some ((v20 0), r17.2.2)] := (callV_eq vb _ _ _ rfl).trans (by kernel_rfl)
theorem impl_isAtomByte_eq (a0 : V) (H : VH) : cv id_impl_isAtomByte [a0] H =
 (qc id_impl_isLetter [(frz H a0)]).bind fun x2 =>
 ifGV x2 (
 some ((.bool true), H)) (
 (qc id_impl_isDigit [(frz H (strip a0))]).bind fun x27 =>
 ifGV x27 (
 some ((.bool true), H)) (
 (vBinV (.int .u8) .eql (strip (strip a0)) (.int .u8 33)).bind fun x51 =>
 ifGV x51 (
 some ((.bool true), H)) (
 (vBinV (.int .u8) .geq (strip (strip (strip a0))) (.int .u8 35)).bind fun x73 =>
 ifGV x73 (
 (vBinV (.int .u8) .leq (strip (strip (strip (strip a0)))) (.int .u8 39)).bind fun x76 =>
 ifGV x76 (
 some ((.bool true), H)) (
 (vBinV (.int .u8) .eql (strip (strip (strip (strip (strip a0))))) (.int .u8 42)).bind fun x97 =>
 ifGV x97 (
 some ((.bool true), H)) (
 (vBinV (.int .u8) .eql (strip (strip (strip (strip (strip (strip a0)))))) (.int .u8 43)).bind fun x115 =>
 ifGV x115 (
 some ((.bool true), H)) (
 (vBinV (.int .u8) .eql (strip (strip (strip (strip (strip (strip (strip a0))))))) (.int .u8 45)).bind fun x131 =>
 ifGV x131 (
 some ((.bool true), H)) (
 (vBinV (.int .u8) .eql (strip (strip (strip (strip (strip (strip (strip (strip a0)))))))) (.int .u8 47)).bind fun x145 =>
 ifGV x145 (
 some ((.bool true), H)) (
 (vBinV (.int .u8) .eql (strip (strip (strip (strip (strip (strip (strip (strip (strip a0))))))))) (.int .u8 61)).bind fun x157 =>
 ifGV x157 (
 some ((.bool true), H)) (
 (vBinV (.int .u8) .eql (strip (strip (strip (strip (strip (strip (strip (strip (strip (strip a0)))))))))) (.int .u8 63)).bind fun x167 =>
 ifGV x167 (
 some ((.bool true), H)) (
 (vBinV (.int .u8) .geq (strip (strip (strip (strip (strip (strip (strip (strip (strip (strip (strip a0))))))))))) (.int .u8 94)).bind fun x175 =>
 ifGV x175 (
 (vBinV (.int .u8) .leq (strip (strip (strip (strip (strip (strip (strip (strip (strip (strip (strip (strip a0)))))))))))) (.int .u8 96)).bind fun x178 =>
 ifGV x178 (
 some ((.bool true), H)) (
 (vBinV (.int .u8) .geq (strip (strip (strip (strip (strip (strip (strip (strip (strip (strip (strip (strip (strip a0))))))))))))) (.int .u8 123)).bind fun x185 =>
 ifGV x185 (
 (vBinV (.int .u8) .leq (strip (strip (strip (strip (strip (strip (strip (strip (strip (strip (strip (strip (strip (strip a0)))))))))))))) (.int .u8 126)).bind fun x188 =>
 some (x188, H)) (
 some ((.bool false), H)))) (
 (vBinV (.int .u8) .geq (strip (strip (strip (strip (strip (strip (strip (strip (strip (strip (strip (strip a0)))))))))))) (.int .u8 123)).bind fun x199 =>
 ifGV x199 (
 (vBinV (.int .u8) .leq (strip (strip (strip (strip (strip (strip (strip (strip (strip (strip (strip (strip (strip a0))))))))))))) (.int .u8 126)).bind fun x202 =>
 some (x202, H)) (
 some ((.bool false), H))))))))))) (
 (vBinV (.int .u8) .eql (strip (strip (strip (strip a0)))) (.int .u8 42)).bind fun x213 =>
 ifGV x213 (
 some ((.bool true), H)) (
 (vBinV (.int .u8) .eql (strip (strip (strip (strip (strip a0))))) (.int .u8 43)).bind fun x231 =>
 ifGV x231 (
 some ((.bool true), H)) (
 (vBinV (.int .u8) .eql (strip (strip (strip (strip (strip (strip a0)))))) (.int .u8 45)).bind fun x247 =>
 ifGV x247 (
 some ((.bool true), H)) (
 (vBinV (.int .u8) .eql (strip (strip (strip (strip (strip (strip (strip a0))))))) (.int .u8 47)).bind fun x261 =>
 ifGV x261 (
 some ((.bool true), H)) (
 (vBinV (.int .u8) .eql (strip (strip (strip (strip (strip (strip (strip (strip a0)))))))) (.int .u8 61)).bind fun x273 =>
 ifGV x273 (
 some ((.bool true), H)) (
 (vBinV (.int .u8) .eql (strip (strip (strip (strip (strip (strip (strip (strip (strip a0))))))))) (.int .u8 63)).bind fun x283 =>
 ifGV x283 (
 some ((.bool true), H)) (
 (vBinV (.int .u8) .geq (strip (strip (strip (strip (strip (strip (strip (strip (strip (strip a0)))))))))) (.int .u8 94)).bind fun x291 =>
 ifGV x291 (
 (vBinV (.int .u8) .leq (strip (strip (strip (strip (strip (strip (strip (strip (strip (strip (strip a0))))))))))) (.int .u8 96)).bind fun x294 =>
 ifGV x294 (
 some ((.bool true), H)) (
 (vBinV (.int .u8) .geq (strip (strip (strip (strip (strip (strip (strip (strip (strip (strip (strip (strip a0)))))))))))) (.int .u8 123)).bind fun x301 =>
 ifGV x301 (
 (vBinV (.int .u8) .leq (strip (strip (strip (strip (strip (strip (strip (strip (strip (strip (strip (strip (strip a0))))))))))))) (.int .u8 126)).bind fun x304 =>
 some (x304, H)) (
 some ((.bool false), H)))) (
 (vBinV (.int .u8) .geq (strip (strip (strip (strip (strip (strip (strip (strip (strip (strip (strip a0))))))))))) (.int .u8 123)).bind fun x315 =>
 ifGV x315 (
 (vBinV (.int .u8) .leq (strip (strip (strip (strip (strip (strip (strip (strip (strip (strip (strip (strip a0)))))))))))) (.int .u8 126)).bind fun x318 =>
 some (x318, H)) (
 some ((.bool false), H))))))))))))) := (callV_eq vb _ _ _ rfl).trans (by kernel_rfl)
theorem impl_isLetter_eq (a0 : V) (H : VH) : cv id_impl_isLetter [a0] H =
 (vBinV (.int .u8) .geq a0 (.int .u8 97)).bind fun x2 =>
 ifGV x2 (
 (vBinV (.int .u8) .leq (strip a0) (.int .u8 122)).bind fun x5 =>
 ifGV x5 (
 some ((.bool true), H)) (
 (vBinV (.int .u8) .geq (strip (strip a0)) (.int .u8 65)).bind fun x11 =>
 ifGV x11 (
 (vBinV (.int .u8) .leq (strip (strip (strip a0))) (.int .u8 90)).bind fun x14 =>
 some (x14, H)) (
 some ((.bool false), H)))) (
 (vBinV (.int .u8) .geq (strip a0) (.int .u8 65)).bind fun x24 =>
 ifGV x24 (
 (vBinV (.int .u8) .leq (strip (strip a0)) (.int .u8 90)).bind fun x27 =>
 some (x27, H)) (
 some ((.bool false), H))) := (callV_eq vb _ _ _ rfl).trans (by kernel_rfl)
theorem impl_isDigit_eq (a0 : V) (H : VH) : cv id_impl_isDigit [a0] H =
 (vBinV (.int .u8) .geq a0 (.int .u8 48)).bind fun x2 =>
 ifGV x2 (
 (vBinV (.int .u8) .leq (strip a0) (.int .u8 57)).bind fun x5 =>
 some (x5, H)) (
 some ((.bool false), H)) := (callV_eq vb _ _ _ rfl).trans (by kernel_rfl)
theorem impl_isDomain_eq (a0 : V) (H : VH) : cv id_impl_isDomain [a0] H =
 (vLenSV a0).bind fun x2 =>
 (vBinV (.int .i64) .leq x2 (.int .i64 40)).bind fun x3 =>
 ifGV x3 (
 (pc id_strings_Split [(frz H (strip a0)), (frz H (.str [46]))]).bind fun x6 =>
 (qc id_slices_ContainsFunc___string_string_ [(frz H x6), (frz H (.fn id_impl_isDomain_1 []))]).bind fun x7 =>
 (vUnV .not x7).bind fun x8 =>
 some (x8, H)) (
 some ((.bool false), H)) := (callV_eq vb _ _ _ rfl).trans (by kernel_rfl)
theorem impl_isDomain_1_eq (a0 : V) (H : VH) : cv id_impl_isDomain_1 [a0] H =
 (qc id_impl_isLabel [(frz H a0)]).bind fun x2 =>
 (vUnV .not x2).bind fun x3 =>
 some (x3, H) := (callV_eq vb _ _ _ rfl).trans (by kernel_rfl)
theorem impl_isLabel_eq (a0 : V) (H : VH) : cv id_impl_isLabel [a0] H =
 (vBinV .str .neq a0 (.str [])).bind fun x2 =>
 ifGV x2 (
 (vIndexSV (strip a0) (.int .i64 0)).bind fun x5 =>
 (vBinV (.int .u8) .neq x5 (.int .u8 45)).bind fun x6 =>
 ifGV x6 (
 (vLenSV (strip (strip (strip a0)))).bind fun x11 =>
 (vBinV (.int .i64) .sub x11 (.int .i64 1)).bind fun x12 =>
 (vIndexSV (strip (strip a0)) x12).bind fun x13 =>
 (vBinV (.int .u8) .neq x13 (.int .u8 45)).bind fun x14 =>
 ifGV x14 (
 (qc id_impl_allBytes [(frz H (strip (strip (strip (strip a0))))), (frz H (.fn id_impl_isLabel_1 []))]).bind fun x18 =>
 some (x18, H)) (
 some ((.bool false), H))) (
 some ((.bool false), H))) (
 some ((.bool false), H)) := (callV_eq vb _ _ _ rfl).trans (by kernel_rfl)
theorem impl_isLabel_1_eq (a0 : V) (H : VH) : cv id_impl_isLabel_1 [a0] H =
 (vBinV (.int .u8) .geq a0 (.int .u8 97)).bind fun x2 =>
 ifGV x2 (
 (vBinV (.int .u8) .leq (strip a0) (.int .u8 122)).bind fun x5 =>
 ifGV x5 (
 some ((.bool true), H)) (
 (qc id_impl_isDigit [(frz H (strip (strip a0)))]).bind fun x13 =>
 ifGV x13 (
 some ((.bool true), H)) (
 (vBinV (.int .u8) .eql (strip (strip (strip a0))) (.int .u8 45)).bind fun x19 =>
 some (x19, H)))) (
 (qc id_impl_isDigit [(frz H (strip a0))]).bind fun x25 =>
 ifGV x25 (
 some ((.bool true), H)) (
 (vBinV (.int .u8) .eql (strip (strip a0)) (.int .u8 45)).bind fun x31 =>
 some (x31, H))) := (callV_eq vb _ _ _ rfl).trans (by kernel_rfl)
theorem impl_mailsValid_eq (a0 a1 : V) (H : VH) : cv id_impl_mailsValid [a0, a1] H =
 (vLenVV (strip a0)).bind fun x2 =>
 (vBinV (.int .i64) .leq x2 a1).bind fun x4 =>
 ifGV x4 (
 (qc id_slices_ContainsFunc___impl_Mail_impl_Mail_ [(frz H (strip a0)), (frz H (.fn id_impl_mailsValid_1 []))]).bind fun x7 =>
 (vUnV .not x7).bind fun x8 =>
 some (x8, H)) (
 some ((.bool false), H)) := (callV_eq vb _ _ _ rfl).trans (by kernel_rfl)
theorem slices_ContainsFunc___impl_Mail_impl_Mail__eq (a0 a1 : V) (H : VH) : cv id_slices_ContainsFunc___impl_Mail_impl_Mail_ [a0, a1] H =
 (qc id_slices_IndexFunc___impl_Mail_impl_Mail_ [(frz H (strip a0)), (frz H a1)]).bind fun x3 =>
 (vBinV (.int .i64) .geq x3 (.int .i64 0)).bind fun x4 =>
 some (x4, H) := (callV_eq vb _ _ _ rfl).trans (by kernel_rfl)
noncomputable def slices_IndexFunc___impl_Mail_impl_Mail__l2 : List V -> VH -> Option (Option Nat × List V × VH) := roundV (vb.ctx cv lpW') (vb.b.ann 154) (vb.takes 154) ⟨⟨[0, 1, 7, 8], [], []⟩, [(.exit 0, ⟨[], [], []⟩), (.ret, ⟨[4], [], []⟩)]⟩ (loopIn Tryz.f154 2)
theorem slices_IndexFunc___impl_Mail_impl_Mail__l2_eq (v0 v1 v2 v3 : V) (H : VH) : slices_IndexFunc___impl_Mail_impl_Mail__l2 [v0, v1, v2, v3] H =
 (vBinV (.int .i64) .lss v3 v2).bind fun x4 =>
 ifVV x4 (
 (vIdxV 3 (strip v0) v3).bind fun x10 =>
 (ldO globB false true 3 x10 H).bind fun r12 =>
 (calleeV v1).bind fun p14 =>
 (qc p14.1 ((([r12.1] : List V) ++ p14.2).map (frz r12.2))).bind fun x13 =>
 ifVV x13 (
 some (some 1, [(strip v3)], r12.2)) (
 (vBinV (.int .i64) .add (strip v3) (.int .i64 1)).bind fun x17 =>
 some (none, [v0, (strip v1), v2, x17], r12.2))) (
 some (some 0, [], H)) := by kernel_rfl
theorem slices_IndexFunc___impl_Mail_impl_Mail__eq (a0 a1 : V) (H : VH) : cv id_slices_IndexFunc___impl_Mail_impl_Mail_ [a0, a1] H =
 (vLenVV (strip a0)).bind fun x2 =>
 (lpW' slices_IndexFunc___impl_Mail_impl_Mail__l2 [a0, a1, x2, (.int .i64 0)] H).bind fun r19 =>
 inN r19.1 [
 gotV 0 r19.2.1 fun v20 =>
 some ((.int .i64 (-1)), r19.2.2),
 gotV 1 r19.2.1 fun v22 =>
 some ((v22 0), r19.2.2)] := (callV_eq vb _ _ _ rfl).trans (by kernel_rfl)
theorem impl_mailsValid_1_eq (a0 : V) (H : VH) : cv id_impl_mailsValid_1 [a0] H =
 (aggNV 3 a0).bind fun c1 =>
 (qc id_impl_MailValid [(frz H (.agg [(strip (c1.getD 0 .nilp)), (strip (c1.getD 1 .nilp)), (strip (c1.getD 2 .nilp))]))]).bind fun x4 =>
 (vUnV .not x4).bind fun x5 =>
 some (x5, H) := (callV_eq vb _ _ _ rfl).trans (by kernel_rfl)
theorem impl_MailValid_eq (a0 : V) (H : VH) : cv id_impl_MailValid [a0] H =
 (aggNV 3 a0).bind fun c1 =>
 (qc id_impl_draftValid [(frz H (.agg [(strip (c1.getD 0 .nilp)), (strip (c1.getD 1 .nilp)), (strip (c1.getD 2 .nilp))])), (frz H (.int .i64 1)), (frz H (.int .i64 30))]).bind fun x4 =>
 some (x4, H) := (callV_eq vb _ _ _ rfl).trans (by kernel_rfl)
theorem impl_draftValid_eq (a0 a1 a2 : V) (H : VH) : cv id_impl_draftValid [a0, a1, a2] H =
 (aggNV 3 a0).bind fun c1 =>
 (qc id_impl_isFrom [(frz H (strip (c1.getD 0 .nilp)))]).bind fun x5 =>
 ifGV x5 (
 (vLenVV (strip (c1.getD 1 .nilp))).bind fun x9 =>
 (vBinV (.int .i64) .geq x9 a1).bind fun x11 =>
 ifGV x11 (
 (vLenVV (strip (c1.getD 1 .nilp))).bind fun x16 =>
 (vBinV (.int .i64) .leq x16 (.int .i64 10)).bind fun x17 =>
 ifGV x17 (
 (qc id_slices_ContainsFunc___string_string_ [(frz H (strip (c1.getD 1 .nilp))), (frz H (.fn id_impl_draftValid_1 []))]).bind fun x22 =>
 (vUnV .not x22).bind fun x23 =>
 ifGV x23 (
 (qc id_impl_areTexts [(frz H (strip (c1.getD 2 .nilp))), (frz H a2)]).bind fun x29 =>
 some (x29, H)) (
 some ((.bool false), H))) (
 some ((.bool false), H))) (
 some ((.bool false), H))) (
 some ((.bool false), H)) := (callV_eq vb _ _ _ rfl).trans (by kernel_rfl)
theorem impl_isFrom_eq (a0 : V) (H : VH) : cv id_impl_isFrom [a0] H =
 (vBinV .str .eql a0 (.str [])).bind fun x2 =>
 ifGV x2 (
 some ((.bool true), H)) (
 (qc id_impl_isPath [(frz H (strip a0))]).bind fun x7 =>
 some (x7, H)) := (callV_eq vb _ _ _ rfl).trans (by kernel_rfl)
theorem impl_draftValid_1_eq (a0 : V) (H : VH) : cv id_impl_draftValid_1 [a0] H =
 (qc id_impl_isPath [(frz H a0)]).bind fun x2 =>
 (vUnV .not x2).bind fun x3 =>
 some (x3, H) := (callV_eq vb _ _ _ rfl).trans (by kernel_rfl)
theorem impl_areTexts_eq (a0 a1 : V) (H : VH) : cv id_impl_areTexts [a0, a1] H =
 (vLenVV (strip a0)).bind fun x2 =>
 (vBinV (.int .i64) .leq x2 a1).bind fun x4 =>
 ifGV x4 (
 (qc id_slices_ContainsFunc___string_string_ [(frz H (strip a0)), (frz H (.fn id_impl_areTexts_1 []))]).bind fun x7 =>
 (vUnV .not x7).bind fun x8 =>
 some (x8, H)) (
 some ((.bool false), H)) := (callV_eq vb _ _ _ rfl).trans (by kernel_rfl)
theorem impl_areTexts_1_eq (a0 : V) (H : VH) : cv id_impl_areTexts_1 [a0] H =
 (qc id_impl_TextValid [(frz H a0)]).bind fun x2 =>
 (vUnV .not x2).bind fun x3 =>
 some (x3, H) := (callV_eq vb _ _ _ rfl).trans (by kernel_rfl)
noncomputable def impl_TextValid_l2 : List V -> VH -> Option (Option Nat × List V × VH) := roundV (vb.ctx cv lpW') (vb.b.ann 139) (vb.takes 139) ⟨⟨[0, 5, 6], [], []⟩, [(.exit 0, ⟨[0], [], []⟩), (.ret, ⟨[2], [], []⟩)]⟩ (loopIn Tryz.f139 2)
theorem impl_TextValid_l2_eq (v0 v1 v2 : V) (H : VH) : impl_TextValid_l2 [v0, v1, v2] H =
 (vBinV (.int .i64) .lss v2 v1).bind fun x4 =>
 ifVV x4 (
 (vIndexSV v0 v2).bind fun x9 =>
 (vBinV (.int .u8) .lss x9 (.int .u8 32)).bind fun x10 =>
 ifGV x10 (
 some (some 1, [(.bool false)], H)) (
 (vIndexSV (strip v0) (strip v2)).bind fun x16 =>
 (vBinV (.int .u8) .gtr x16 (.int .u8 126)).bind fun x17 =>
 ifVV x17 (
 some (some 1, [(.bool false)], H)) (
 (vBinV (.int .i64) .add (strip v2) (.int .i64 1)).bind fun x20 =>
 some (none, [(strip (strip v0)), v1, x20], H)))) (
 some (some 0, [v0], H)) := by kernel_rfl
theorem impl_TextValid_eq (a0 : V) (H : VH) : cv id_impl_TextValid [a0] H =
 (vLenSV a0).bind fun x2 =>
 (lpW' impl_TextValid_l2 [(strip a0), x2, (.int .i64 0)] H).bind fun r22 =>
 inN r22.1 [
 gotV 1 r22.2.1 fun v23 =>
 (vLenSV (v23 0)).bind fun x25 =>
 (vBinV (.int .i64) .leq x25 (.int .i64 200)).bind fun x26 =>
 some (x26, r22.2.2),
 gotV 1 r22.2.1 fun v28 =>
 some ((v28 0), r22.2.2)] := (callV_eq vb _ _ _ rfl).trans (by kernel_rfl)
noncomputable def impl_copyBoxes_l3 : List V -> VH -> Option (Option Nat × List V × VH) := roundV (vb.ctx cv lpW') (vb.b.ann 63) (vb.takes 63) ⟨⟨[3, 7, 8, 9], [], []⟩, [(.exit 0, ⟨[3], [], []⟩)]⟩ (loopIn Tryz.f63 3)
theorem impl_copyBoxes_l3_eq (v0 v1 v2 v3 : V) (H : VH) : impl_copyBoxes_l3 [v0, v1, v2, v3] H =
 (vBinV (.int .i64) .lss v3 v2).bind fun x6 =>
 ifVV x6 (
 (vIdxV 2 v1 v3).bind fun x7 =>
 (ldO globB true true 2 x7 H).bind fun r9 =>
 (aggNV 2 r9.1).bind fun c12 =>
 (pc id_impl_copyMails [(frz r9.2 (strip (c12.getD 1 .nilp)))]).bind fun x18 =>
 (vOneV (strip (c12.getD 0 .nilp))).bind fun y20 =>
 (vOneV x18).bind fun y21 =>
 (ownV v0).bind fun s24 =>
 (appV false 2 40 s24 (.sl true [[y20, y21]])).bind fun x23 =>
 (vBinV (.int .i64) .add v3 (.int .i64 1)).bind fun x26 =>
 some (none, [x23, v1, v2, x26], r9.2)) (
 some (some 0, [v0], H)) := by kernel_rfl
theorem impl_copyBoxes_eq (a0 : V) (H : VH) : cv id_impl_copyBoxes [a0] H =
 (vLenVV (strip a0)).bind fun x4 =>
 (lpW' impl_copyBoxes_l3 [(.sl true []), (strip a0), x4, (.int .i64 0)] H).bind fun r28 =>
 inN r28.1 [
 gotV 1 r28.2.1 fun v29 =>
 some ((v29 0), r28.2.2)] := (callV_eq vb _ _ _ rfl).trans (by kernel_rfl)
noncomputable def impl_copyMails_l3 : List V -> VH -> Option (Option Nat × List V × VH) := roundV (vb.ctx cv lpW') (vb.b.ann 118) (vb.takes 118) ⟨⟨[3, 7, 8, 9], [], []⟩, [(.exit 0, ⟨[3], [], []⟩)]⟩ (loopIn Tryz.f118 3)
theorem impl_copyMails_l3_eq (v0 v1 v2 v3 : V) (H : VH) : impl_copyMails_l3 [v0, v1, v2, v3] H =
 (vBinV (.int .i64) .lss v3 v2).bind fun x6 =>
 ifVV x6 (
 (vIdxV 3 v1 v3).bind fun x7 =>
 (ldO globB false true 3 x7 H).bind fun r9 =>
 (aggNV 3 r9.1).bind fun c12 =>
 (pc id_impl_copyMail [(frz r9.2 (.agg [(strip (c12.getD 0 .nilp)), (strip (c12.getD 1 .nilp)), (strip (c12.getD 2 .nilp))]))]).bind fun x15 =>
 (aggNV 3 x15).bind fun c17 =>
 (ownV v0).bind fun s19 =>
 (appV false 3 64 s19 (.sl true [[(c17.getD 0 .nilp), (c17.getD 1 .nilp), (c17.getD 2 .nilp)]])).bind fun x18 =>
 (vBinV (.int .i64) .add v3 (.int .i64 1)).bind fun x21 =>
 some (none, [x18, v1, v2, x21], r9.2)) (
 some (some 0, [v0], H)) := by kernel_rfl
theorem impl_copyMails_eq (a0 : V) (H : VH) : cv id_impl_copyMails [a0] H =
 (vLenVV (strip a0)).bind fun x4 =>
 (lpW' impl_copyMails_l3 [(.sl true []), (strip a0), x4, (.int .i64 0)] H).bind fun r23 =>
 inN r23.1 [
 gotV 1 r23.2.1 fun v24 =>
 some ((v24 0), r23.2.2)] := (callV_eq vb _ _ _ rfl).trans (by kernel_rfl)
theorem impl_copyMail_eq (a0 : V) (H : VH) : cv id_impl_copyMail [a0] H =
 (aggNV 3 a0).bind fun c1 =>
 (pc id_slices_Clone___string_string_ [(frz H (strip (c1.getD 1 .nilp)))]).bind fun x7 =>
 (pc id_slices_Clone___string_string_ [(frz H (strip (c1.getD 2 .nilp)))]).bind fun x10 =>
 (vOneV (strip (c1.getD 0 .nilp))).bind fun y12 =>
 (vOneV x7).bind fun y13 =>
 (vOneV x10).bind fun y14 =>
 some ((.agg [y12, y13, y14]), H) := (callV_eq vb _ _ _ rfl).trans (by kernel_rfl)
theorem slices_Clone___string_string__eq (a0 : V) (H : VH) : cv id_slices_Clone___string_string_ [a0] H =
 (vNilEqV .eql (strip a0)).bind fun x2 =>
 ifVV x2 (
 some ((.sl true []), H)) (
 (appV false 1 16 [] a0).bind fun x6 =>
 some (x6, H)) := (callV_eq vb _ _ _ rfl).trans (by kernel_rfl)
noncomputable def laws_eqBoxS_l4 : List V -> VH -> Option (Option Nat × List V × VH) := roundV (vb.ctx cv lpW') (vb.b.ann 19) (vb.takes 19) ⟨⟨[0, 1, 5], [], []⟩, [(.exit 0, ⟨[], [], []⟩), (.ret, ⟨[4], [], []⟩)]⟩ (loopIn Tryz.f19 4)
theorem laws_eqBoxS_l4_eq (v0 v1 v2 : V) (H : VH) : laws_eqBoxS_l4 [v0, v1, v2] H =
 (vLenVV (strip v0)).bind fun x10 =>
 (vBinV (.int .i64) .lss v2 x10).bind fun x11 =>
 ifVV x11 (
 (vIdxV 2 (strip v0) (strip v2)).bind fun x14 =>
 (ldO globB false true 2 x14 H).bind fun r16 =>
 (vIdxV 2 (strip v1) (strip (strip v2))).bind fun x19 =>
 (ldO globB false true 2 x19 r16.2).bind fun r21 =>
 (qc id_laws_eqBox [(frz r21.2 r16.1), (frz r21.2 r21.1)]).bind fun x22 =>
 (vUnV .not x22).bind fun x23 =>
 ifVV x23 (
 some (some 1, [(.bool false)], r21.2)) (
 (vBinV (.int .i64) .add (strip (strip (strip v2))) (.int .i64 1)).bind fun x26 =>
 some (none, [v0, v1, x26], r21.2))) (
 some (some 0, [], H)) := by kernel_rfl
theorem laws_eqBoxS_eq (a0 a1 : V) (H : VH) : cv id_laws_eqBoxS [a0, a1] H =
 (vLenVV (strip a0)).bind fun x2 =>
 (vLenVV (strip a1)).bind fun x4 =>
 (vBinV (.int .i64) .neq x2 x4).bind fun x5 =>
 ifVV x5 (
 some ((.bool false), H)) (
 (lpW' laws_eqBoxS_l4 [a0, a1, (.int .i64 0)] H).bind fun r28 =>
 inN r28.1 [
 gotV 0 r28.2.1 fun v29 =>
 some ((.bool true), r28.2.2),
 gotV 1 r28.2.1 fun v31 =>
 some ((v31 0), r28.2.2)]) := (callV_eq vb _ _ _ rfl).trans (by kernel_rfl)
theorem laws_eqBox_eq (a0 a1 : V) (H : VH) : cv id_laws_eqBox [a0, a1] H =
 (aggNV 2 a0).bind fun c1 =>
 (aggNV 2 a1).bind fun c3 =>
 (vBinV .str .neq (strip (c1.getD 0 .nilp)) (strip (c3.getD 0 .nilp))).bind fun x9 =>
 ifVV x9 (
 some ((.bool false), H)) (
 (qc id_laws_eqMailS [(frz H (strip (c1.getD 1 .nilp))), (frz H (strip (c3.getD 1 .nilp)))]).bind fun x15 =>
 (vUnV .not x15).bind fun x16 =>
 ifVV x16 (
 some ((.bool false), H)) (
 some ((.bool true), H))) := (callV_eq vb _ _ _ rfl).trans (by kernel_rfl)
noncomputable def laws_eqMailS_l4 : List V -> VH -> Option (Option Nat × List V × VH) := roundV (vb.ctx cv lpW') (vb.b.ann 119) (vb.takes 119) ⟨⟨[0, 1, 5], [], []⟩, [(.exit 0, ⟨[], [], []⟩), (.ret, ⟨[4], [], []⟩)]⟩ (loopIn Tryz.f119 4)
theorem laws_eqMailS_l4_eq (v0 v1 v2 : V) (H : VH) : laws_eqMailS_l4 [v0, v1, v2] H =
 (vLenVV (strip v0)).bind fun x10 =>
 (vBinV (.int .i64) .lss v2 x10).bind fun x11 =>
 ifVV x11 (
 (vIdxV 3 (strip v0) (strip v2)).bind fun x14 =>
 (ldO globB false true 3 x14 H).bind fun r16 =>
 (vIdxV 3 (strip v1) (strip (strip v2))).bind fun x19 =>
 (ldO globB false true 3 x19 r16.2).bind fun r21 =>
 (qc id_laws_eqMail [(frz r21.2 r16.1), (frz r21.2 r21.1)]).bind fun x22 =>
 (vUnV .not x22).bind fun x23 =>
 ifVV x23 (
 some (some 1, [(.bool false)], r21.2)) (
 (vBinV (.int .i64) .add (strip (strip (strip v2))) (.int .i64 1)).bind fun x26 =>
 some (none, [v0, v1, x26], r21.2))) (
 some (some 0, [], H)) := by kernel_rfl
theorem laws_eqMailS_eq (a0 a1 : V) (H : VH) : cv id_laws_eqMailS [a0, a1] H =
 (vLenVV (strip a0)).bind fun x2 =>
 (vLenVV (strip a1)).bind fun x4 =>
 (vBinV (.int .i64) .neq x2 x4).bind fun x5 =>
 ifVV x5 (
 some ((.bool false), H)) (
 (lpW' laws_eqMailS_l4 [a0, a1, (.int .i64 0)] H).bind fun r28 =>
 inN r28.1 [
 gotV 0 r28.2.1 fun v29 =>
 some ((.bool true), r28.2.2),
 gotV 1 r28.2.1 fun v31 =>
 some ((v31 0), r28.2.2)]) := (callV_eq vb _ _ _ rfl).trans (by kernel_rfl)
theorem laws_eqMail_eq (a0 a1 : V) (H : VH) : cv id_laws_eqMail [a0, a1] H =
 (aggNV 3 a0).bind fun c1 =>
 (aggNV 3 a1).bind fun c3 =>
 (vBinV .str .neq (strip (c1.getD 0 .nilp)) (strip (c3.getD 0 .nilp))).bind fun x9 =>
 ifVV x9 (
 some ((.bool false), H)) (
 (qc id_laws_eqStringS [(frz H (strip (c1.getD 1 .nilp))), (frz H (strip (c3.getD 1 .nilp)))]).bind fun x15 =>
 (vUnV .not x15).bind fun x16 =>
 ifVV x16 (
 some ((.bool false), H)) (
 (qc id_laws_eqStringS [(frz H (strip (c1.getD 2 .nilp))), (frz H (strip (c3.getD 2 .nilp)))]).bind fun x22 =>
 (vUnV .not x22).bind fun x23 =>
 ifVV x23 (
 some ((.bool false), H)) (
 some ((.bool true), H)))) := (callV_eq vb _ _ _ rfl).trans (by kernel_rfl)
noncomputable def laws_eqStringS_l4 : List V -> VH -> Option (Option Nat × List V × VH) := roundV (vb.ctx cv lpW') (vb.b.ann 66) (vb.takes 66) ⟨⟨[0, 1, 5], [], []⟩, [(.exit 0, ⟨[], [], []⟩), (.ret, ⟨[4], [], []⟩)]⟩ (loopIn Tryz.f66 4)
theorem laws_eqStringS_l4_eq (v0 v1 v2 : V) (H : VH) : laws_eqStringS_l4 [v0, v1, v2] H =
 (vLenVV (strip v0)).bind fun x10 =>
 (vBinV (.int .i64) .lss v2 x10).bind fun x11 =>
 ifVV x11 (
 (vIdxV 1 (strip v0) (strip v2)).bind fun x14 =>
 (ldO globB false false 1 x14 H).bind fun r16 =>
 (vIdxV 1 (strip v1) (strip (strip v2))).bind fun x19 =>
 (ldO globB false false 1 x19 r16.2).bind fun r21 =>
 (vBinV .str .neq r16.1 r21.1).bind fun x22 =>
 ifVV x22 (
 some (some 1, [(.bool false)], r21.2)) (
 (vBinV (.int .i64) .add (strip (strip (strip v2))) (.int .i64 1)).bind fun x25 =>
 some (none, [v0, v1, x25], r21.2))) (
 some (some 0, [], H)) := by kernel_rfl
theorem laws_eqStringS_eq (a0 a1 : V) (H : VH) : cv id_laws_eqStringS [a0, a1] H =
 (vLenVV (strip a0)).bind fun x2 =>
 (vLenVV (strip a1)).bind fun x4 =>
 (vBinV (.int .i64) .neq x2 x4).bind fun x5 =>
 ifVV x5 (
 some ((.bool false), H)) (
 (lpW' laws_eqStringS_l4 [a0, a1, (.int .i64 0)] H).bind fun r27 =>
 inN r27.1 [
 gotV 0 r27.2.1 fun v28 =>
 some ((.bool true), r27.2.2),
 gotV 1 r27.2.1 fun v30 =>
 some ((v30 0), r27.2.2)]) := (callV_eq vb _ _ _ rfl).trans (by kernel_rfl)
noncomputable def laws_markBoxS_l2 : List V -> VH -> Option (Option Nat × List V × VH) := roundV (vb.ctx cv lpW') (vb.b.ann 21) (vb.takes 21) ⟨⟨[0, 1, 5], [], []⟩, [(.exit 0, ⟨[1], [], []⟩)]⟩ (loopIn Tryz.f21 2)
theorem laws_markBoxS_l2_eq (v0 v1 v2 : V) (H : VH) : laws_markBoxS_l2 [v0, v1, v2] H =
 (vLenVV (strip v0)).bind fun x4 =>
 (vBinV (.int .i64) .lss v2 x4).bind fun x5 =>
 ifVV x5 (
 (qc id_laws_markText [(frz H v1)]).bind fun x9 =>
 (vIdxV 2 (strip v0) (strip v2)).bind fun x10 =>
 (vOffV x10 0).bind fun x11 =>
 (vOneV x9).bind fun y13 =>
 (stO x11 [y13] H).bind fun H14 =>
 (vBinV (.int .i64) .add (strip v1) (.int .i64 1)).bind fun x16 =>
 (vIdxV 2 (strip v0) (strip (strip v2))).bind fun x20 =>
 (vOffV x20 1).bind fun x21 =>
 (ldO globB false false 1 x21 H14).bind fun r23 =>
 (cv id_laws_markMailS [(strip r23.1), (strip x16)] r23.2).bind fun r26 =>
 (vBinV (.int .i64) .add (strip (strip (strip v2))) (.int .i64 1)).bind fun x29 =>
 some (none, [v0, r26.1, x29], r26.2)) (
 some (some 0, [v1], H)) := by kernel_rfl
theorem laws_markBoxS_eq (a0 a1 : V) (H : VH) : cv id_laws_markBoxS [a0, a1] H =
 (lpW' laws_markBoxS_l2 [a0, a1, (.int .i64 0)] H).bind fun r31 =>
 inN r31.1 [
 gotV 1 r31.2.1 fun v32 =>
 some ((v32 0), r31.2.2)] := (callV_eq vb _ _ _ rfl).trans (by kernel_rfl)
noncomputable def laws_markText_l4 : List V -> VH -> Option (Option Nat × List V × VH) := roundV (vb.ctx cv lpW') (vb.b.ann 67) (vb.takes 67) ⟨⟨[0, 3], [], []⟩, [(.exit 0, ⟨[3], [], []⟩)]⟩ (loopIn Tryz.f67 4)
theorem laws_markText_l4_eq (v0 v1 : V) (H : VH) : laws_markText_l4 [v0, v1] H =
 (vBinV (.int .i64) .gtr v0 (.int .i64 0)).bind fun x6 =>
 ifVV x6 (
 (vBinV (.int .i64) .rem (strip v0) (.int .i64 10)).bind fun x8 =>
 (vBinV (.int .i64) .add (.int .i64 48) x8).bind fun x9 =>
 (vConvV .u8 x9).bind fun x10 =>
 (vOneV x10).bind fun y12 =>
 (b2sV (.sl true [[y12]]) H).bind fun x13 =>
 (vBinV .str .add x13 v1).bind fun x15 =>
 (vBinV (.int .i64) .quo (strip (strip v0)) (.int .i64 10)).bind fun x18 =>
 some (none, [x18, x15], H)) (
 some (some 0, [v1], H)) := by kernel_rfl
theorem laws_markText_eq (a0 : V) (H : VH) : cv id_laws_markText [a0] H =
 (vBinV (.int .i64) .leq a0 (.int .i64 0)).bind fun x2 =>
 ifVV x2 (
 some ((.str [109, 48]), H)) (
 (lpW' laws_markText_l4 [(strip a0), (.str [])] H).bind fun r20 =>
 inN r20.1 [
 gotV 1 r20.2.1 fun v21 =>
 (vBinV .str .add (.str [109]) (v21 0)).bind fun x23 =>
 some (x23, r20.2.2)]) := (callV_eq vb _ _ _ rfl).trans (by kernel_rfl)
noncomputable def laws_markMailS_l2 : List V -> VH -> Option (Option Nat × List V × VH) := roundV (vb.ctx cv lpW') (vb.b.ann 68) (vb.takes 68) ⟨⟨[0, 1, 5], [], []⟩, [(.exit 0, ⟨[1], [], []⟩)]⟩ (loopIn Tryz.f68 2)
theorem laws_markMailS_l2_eq (v0 v1 v2 : V) (H : VH) : laws_markMailS_l2 [v0, v1, v2] H =
 (vLenVV (strip v0)).bind fun x4 =>
 (vBinV (.int .i64) .lss v2 x4).bind fun x5 =>
 ifVV x5 (
 (qc id_laws_markText [(frz H v1)]).bind fun x9 =>
 (vIdxV 3 (strip v0) (strip v2)).bind fun x10 =>
 (vOffV x10 0).bind fun x11 =>
 (vOneV x9).bind fun y13 =>
 (stO x11 [y13] H).bind fun H14 =>
 (vBinV (.int .i64) .add (strip v1) (.int .i64 1)).bind fun x16 =>
 (vIdxV 3 (strip v0) (strip (strip v2))).bind fun x20 =>
 (vOffV x20 1).bind fun x21 =>
 (ldO globB false false 1 x21 H14).bind fun r23 =>
 (cv id_laws_markStringS [(strip r23.1), (strip x16)] r23.2).bind fun r26 =>
 (vIdxV 3 (strip v0) (strip (strip (strip v2)))).bind fun x30 =>
 (vOffV x30 2).bind fun x31 =>
 (ldO globB false false 1 x31 r26.2).bind fun r33 =>
 (cv id_laws_markStringS [(strip r33.1), (strip r26.1)] r33.2).bind fun r36 =>
 (vBinV (.int .i64) .add (strip (strip (strip (strip v2)))) (.int .i64 1)).bind fun x39 =>
 some (none, [v0, r36.1, x39], r36.2)) (
 some (some 0, [v1], H)) := by kernel_rfl
theorem laws_markMailS_eq (a0 a1 : V) (H : VH) : cv id_laws_markMailS [a0, a1] H =
 (lpW' laws_markMailS_l2 [a0, a1, (.int .i64 0)] H).bind fun r41 =>
 inN r41.1 [
 gotV 1 r41.2.1 fun v42 =>
 some ((v42 0), r41.2.2)] := (callV_eq vb _ _ _ rfl).trans (by kernel_rfl)
noncomputable def laws_markStringS_l2 : List V -> VH -> Option (Option Nat × List V × VH) := roundV (vb.ctx cv lpW') (vb.b.ann 69) (vb.takes 69) ⟨⟨[0, 1, 5], [], []⟩, [(.exit 0, ⟨[1], [], []⟩)]⟩ (loopIn Tryz.f69 2)
theorem laws_markStringS_l2_eq (v0 v1 v2 : V) (H : VH) : laws_markStringS_l2 [v0, v1, v2] H =
 (vLenVV (strip v0)).bind fun x4 =>
 (vBinV (.int .i64) .lss v2 x4).bind fun x5 =>
 ifVV x5 (
 (qc id_laws_markText [(frz H v1)]).bind fun x9 =>
 (vIdxV 1 (strip v0) (strip v2)).bind fun x10 =>
 (vOneV x9).bind fun y12 =>
 (stO x10 [y12] H).bind fun H13 =>
 (vBinV (.int .i64) .add (strip v1) (.int .i64 1)).bind fun x15 =>
 (vBinV (.int .i64) .add (strip (strip v2)) (.int .i64 1)).bind fun x18 =>
 some (none, [v0, x15, x18], H13)) (
 some (some 0, [v1], H)) := by kernel_rfl
theorem laws_markStringS_eq (a0 a1 : V) (H : VH) : cv id_laws_markStringS [a0, a1] H =
 (lpW' laws_markStringS_l2 [a0, a1, (.int .i64 0)] H).bind fun r20 =>
 inN r20.1 [
 gotV 1 r20.2.1 fun v21 =>
 some ((v21 0), r20.2.2)] := (callV_eq vb _ _ _ rfl).trans (by kernel_rfl)
theorem laws_markMail_eq (a0 a1 : V) (H : VH) : cv id_laws_markMail [a0, a1] H =
 (aggNV 3 a0).bind fun c1 =>
 (cv id_laws_markStringS [(strip (strip (c1.getD 1 .nilp))), (strip a1)] H).bind fun r7 =>
 (cv id_laws_markStringS [(strip (strip (c1.getD 2 .nilp))), (strip r7.1)] r7.2).bind fun r13 =>
 some (r13.1, r13.2) := (callV_eq vb _ _ _ rfl).trans (by kernel_rfl)
noncomputable def laws_heldBoxS_l2 : List V -> VH -> Option (Option Nat × List V × VH) := roundV (vb.ctx cv lpW') (vb.b.ann 23) (vb.takes 23) ⟨⟨[0, 1, 5], [], []⟩, [(.exit 0, ⟨[1], [], []⟩), (.ret, ⟨[4], [], []⟩)]⟩ (loopIn Tryz.f23 2)
theorem laws_heldBoxS_l2_eq (v0 v1 v2 : V) (H : VH) : laws_heldBoxS_l2 [v0, v1, v2] H =
 (vLenVV (strip v0)).bind fun x4 =>
 (vBinV (.int .i64) .lss v2 x4).bind fun x5 =>
 ifVV x5 (
 (vIdxV 2 (strip v0) (strip v2)).bind fun x8 =>
 (vOffV x8 0).bind fun x9 =>
 (ldO globB false false 1 x9 H).bind fun r11 =>
 (qc id_laws_markText [(frz r11.2 v1)]).bind fun x13 =>
 (vBinV .str .neq r11.1 x13).bind fun x14 =>
 ifVV x14 (
 some (some 1, [(.int .i64 (-1))], r11.2)) (
 (vBinV (.int .i64) .add (strip v1) (.int .i64 1)).bind fun x17 =>
 (vIdxV 2 (strip v0) (strip (strip v2))).bind fun x21 =>
 (vOffV x21 1).bind fun x22 =>
 (ldO globB false false 1 x22 r11.2).bind fun r24 =>
 (qc id_laws_heldMailS [(frz r24.2 r24.1), (frz r24.2 x17)]).bind fun x26 =>
 (vBinV (.int .i64) .lss x26 (.int .i64 0)).bind fun x29 =>
 ifVV x29 (
 some (some 1, [(.int .i64 (-1))], r24.2)) (
 (vBinV (.int .i64) .add (strip (strip (strip v2))) (.int .i64 1)).bind fun x32 =>
 some (none, [v0, (strip x26), x32], r24.2)))) (
 some (some 0, [v1], H)) := by kernel_rfl
theorem laws_heldBoxS_eq (a0 a1 : V) (H : VH) : cv id_laws_heldBoxS [a0, a1] H =
 (lpW' laws_heldBoxS_l2 [a0, a1, (.int .i64 0)] H).bind fun r34 =>
 inN r34.1 [
 gotV 1 r34.2.1 fun v35 =>
 some ((v35 0), r34.2.2),
 gotV 1 r34.2.1 fun v38 =>
 some ((v38 0), r34.2.2)] := (callV_eq vb _ _ _ rfl).trans (by kernel_rfl)
noncomputable def laws_heldMailS_l2 : List V -> VH -> Option (Option Nat × List V × VH) := roundV (vb.ctx cv lpW') (vb.b.ann 70) (vb.takes 70) ⟨⟨[0, 1, 5], [], []⟩, [(.exit 0, ⟨[1], [], []⟩), (.ret, ⟨[4], [], []⟩)]⟩ (loopIn Tryz.f70 2)
theorem laws_heldMailS_l2_eq (v0 v1 v2 : V) (H : VH) : laws_heldMailS_l2 [v0, v1, v2] H =
 (vLenVV (strip v0)).bind fun x4 =>
 (vBinV (.int .i64) .lss v2 x4).bind fun x5 =>
 ifVV x5 (
 (vIdxV 3 (strip v0) (strip v2)).bind fun x8 =>
 (vOffV x8 0).bind fun x9 =>
 (ldO globB false false 1 x9 H).bind fun r11 =>
 (qc id_laws_markText [(frz r11.2 v1)]).bind fun x13 =>
 (vBinV .str .neq r11.1 x13).bind fun x14 =>
 ifVV x14 (
 some (some 1, [(.int .i64 (-1))], r11.2)) (
 (vBinV (.int .i64) .add (strip v1) (.int .i64 1)).bind fun x17 =>
 (vIdxV 3 (strip v0) (strip (strip v2))).bind fun x21 =>
 (vOffV x21 1).bind fun x22 =>
 (ldO globB false false 1 x22 r11.2).bind fun r24 =>
 (qc id_laws_heldStringS [(frz r24.2 r24.1), (frz r24.2 x17)]).bind fun x26 =>
 (vBinV (.int .i64) .lss x26 (.int .i64 0)).bind fun x29 =>
 ifVV x29 (
 some (some 1, [(.int .i64 (-1))], r24.2)) (
 (vIdxV 3 (strip v0) (strip (strip (strip v2)))).bind fun x33 =>
 (vOffV x33 2).bind fun x34 =>
 (ldO globB false false 1 x34 r24.2).bind fun r36 =>
 (qc id_laws_heldStringS [(frz r36.2 r36.1), (frz r36.2 (strip x26))]).bind fun x38 =>
 (vBinV (.int .i64) .lss x38 (.int .i64 0)).bind fun x41 =>
 ifVV x41 (
 some (some 1, [(.int .i64 (-1))], r36.2)) (
 (vBinV (.int .i64) .add (strip (strip (strip (strip v2)))) (.int .i64 1)).bind fun x44 =>
 some (none, [v0, (strip x38), x44], r36.2))))) (
 some (some 0, [v1], H)) := by kernel_rfl
theorem laws_heldMailS_eq (a0 a1 : V) (H : VH) : cv id_laws_heldMailS [a0, a1] H =
 (lpW' laws_heldMailS_l2 [a0, a1, (.int .i64 0)] H).bind fun r46 =>
 inN r46.1 [
 gotV 1 r46.2.1 fun v47 =>
 some ((v47 0), r46.2.2),
 gotV 1 r46.2.1 fun v50 =>
 some ((v50 0), r46.2.2)] := (callV_eq vb _ _ _ rfl).trans (by kernel_rfl)
noncomputable def laws_heldStringS_l2 : List V -> VH -> Option (Option Nat × List V × VH) := roundV (vb.ctx cv lpW') (vb.b.ann 71) (vb.takes 71) ⟨⟨[0, 1, 5], [], []⟩, [(.exit 0, ⟨[1], [], []⟩), (.ret, ⟨[4], [], []⟩)]⟩ (loopIn Tryz.f71 2)
theorem laws_heldStringS_l2_eq (v0 v1 v2 : V) (H : VH) : laws_heldStringS_l2 [v0, v1, v2] H =
 (vLenVV (strip v0)).bind fun x4 =>
 (vBinV (.int .i64) .lss v2 x4).bind fun x5 =>
 ifVV x5 (
 (vIdxV 1 (strip v0) (strip v2)).bind fun x8 =>
 (ldO globB false false 1 x8 H).bind fun r10 =>
 (qc id_laws_markText [(frz r10.2 v1)]).bind fun x12 =>
 (vBinV .str .neq r10.1 x12).bind fun x13 =>
 ifVV x13 (
 some (some 1, [(.int .i64 (-1))], r10.2)) (
 (vBinV (.int .i64) .add (strip v1) (.int .i64 1)).bind fun x16 =>
 (vBinV (.int .i64) .add (strip (strip v2)) (.int .i64 1)).bind fun x19 =>
 some (none, [v0, x16, x19], r10.2))) (
 some (some 0, [v1], H)) := by kernel_rfl
theorem laws_heldStringS_eq (a0 a1 : V) (H : VH) : cv id_laws_heldStringS [a0, a1] H =
 (lpW' laws_heldStringS_l2 [a0, a1, (.int .i64 0)] H).bind fun r21 =>
 inN r21.1 [
 gotV 1 r21.2.1 fun v22 =>
 some ((v22 0), r21.2.2),
 gotV 1 r21.2.1 fun v25 =>
 some ((v25 0), r21.2.2)] := (callV_eq vb _ _ _ rfl).trans (by kernel_rfl)
theorem laws_heldMail_eq (a0 a1 : V) (H : VH) : cv id_laws_heldMail [a0, a1] H =
 (aggNV 3 a0).bind fun c1 =>
 (qc id_laws_heldStringS [(frz H (strip (c1.getD 1 .nilp))), (frz H a1)]).bind fun x6 =>
 (vBinV (.int .i64) .lss x6 (.int .i64 0)).bind fun x9 =>
 ifVV x9 (
 some ((.int .i64 (-1)), H)) (
 (qc id_laws_heldStringS [(frz H (strip (c1.getD 2 .nilp))), (frz H (strip x6))]).bind fun x14 =>
 (vBinV (.int .i64) .lss x14 (.int .i64 0)).bind fun x17 =>
 ifVV x17 (
 some ((.int .i64 (-1)), H)) (
 some ((strip x14), H))) := (callV_eq vb _ _ _ rfl).trans (by kernel_rfl)
end Go.Proofs.YtikpckcdpmjpgabGreatDoor.Q
