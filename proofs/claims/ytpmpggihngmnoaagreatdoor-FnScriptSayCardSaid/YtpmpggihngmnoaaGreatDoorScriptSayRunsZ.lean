/- What a call of each function comes to. -/
import Derived.Test.YtpmpggihngmnoaaGreatDoorScriptSayBaseZ
namespace Go.Proofs.YtpmpggihngmnoaaGreatDoor.Q
open Go Go.AM Go.Proofs
set_option linter.unusedVariables false
set_option maxRecDepth 100000
noncomputable def laws_FnScriptSay_l13 : List V -> VH -> Option (Option Nat × List V × VH) := roundV (vb.ctx cv lpW') (vb.b.ann 8) (vb.takes 8) ⟨⟨[9, 10, 11, 12], [(8, (8, 0))], [(8, 6)]⟩, [(.exit 0, ⟨[9, 10], [], []⟩), (.ret, ⟨[2], [], []⟩)]⟩ (loopIn Tryz.f8 13)
theorem laws_FnScriptSay_l13_eq (v0 v1 v2 v3 v4 v5 v6 v7 v8 v9 : V) (H : VH) : laws_FnScriptSay_l13 [v0, v1, v2, v3, v4, v5, v6, v7, v8, v9] H =
 (vLenVV (strip v2)).bind fun x90 =>
 (vBinV (.int .i64) .lss v3 x90).bind fun x91 =>
 ifVV x91 (
 (id (
 (vIdxV 1 (strip v2) (strip v3)).bind fun x95 =>
 (ldO globB false false 1 x95 H).bind fun r97 =>
 (pc id_impl_SayLine [(frz r97.2 (.agg [(strip v4), (strip v5), (strip v6), (strip v7), (strip v8), (strip v9)])), (frz r97.2 r97.1)]).bind fun x98 =>
 (vExtV x98 0).bind fun x100 =>
 (vExtV (stripAt 0 x98) 1).bind fun x101 =>
 (vExtV (stripAt 0 x98) 2).bind fun x102 =>
 (aggNV 6 x100).bind fun c105 =>
 (stO (.ptr r97.2.length 0) [(c105.getD 0 .nilp), (c105.getD 1 .nilp), (c105.getD 2 .nilp), (c105.getD 3 .nilp), (c105.getD 4 .nilp), (c105.getD 5 .nilp)] (r97.2 ++ [[(.int .i64 0), (.str []), (.str []), (.sl true []), (.sl true []), (.sl true [])]])).bind fun H106 =>
 (vUnV .not (strip x102)).bind fun x110 =>
 ifVV x110 (
 some (0, [(.bool false)], H106)) (
 (ldO globB false true 6 (.ptr r97.2.length 0) H106).bind fun r113 =>
 (aggNV 6 r113.1).bind fun c115 =>
 (vBinV .str .add v0 (.str [115, 97, 121, 32])).bind fun x117 =>
 (vIdxV 1 (strip v2) (strip (strip v3))).bind fun x120 =>
 (ldO globB false false 1 x120 r113.2).bind fun r122 =>
 (vBinV .str .add x117 r122.1).bind fun x123 =>
 (vBinV .str .add x123 (.str [10])).bind fun x124 =>
 (vBinV (.int .i64) .eql (strip x101) (.int .i64 0)).bind fun x127 =>
 ifVV x127 (
 (vBinV .str .add v1 (.str [45, 10])).bind fun x129 =>
 some (1, [x124, x129, v2, (strip (strip (strip v3))), (c115.getD 0 .nilp), (c115.getD 1 .nilp), (c115.getD 2 .nilp), (c115.getD 3 .nilp), (c115.getD 4 .nilp), (c115.getD 5 .nilp)], r122.2)) (
 (qc id_impl_ReplyText [(frz r122.2 (strip (strip x101)))]).bind fun x133 =>
 (vBinV .str .add v1 x133).bind fun x134 =>
 (vBinV .str .add x134 (.str [10])).bind fun x135 =>
 some (1, [x124, x135, v2, (strip (strip (strip v3))), (c115.getD 0 .nilp), (c115.getD 1 .nilp), (c115.getD 2 .nilp), (c115.getD 3 .nilp), (c115.getD 4 .nilp), (c115.getD 5 .nilp)], r122.2))) : Option (Nat × List V × VH))).bind fun r137 =>
 inN r137.1 [
 gotV 1 r137.2.1 fun v138 =>
 some (some 1, [(v138 0)], r137.2.2),
 gotV 10 r137.2.1 fun v139 =>
 (vBinV (.int .i64) .add (v139 3) (.int .i64 1)).bind fun x141 =>
 some (none, [(v139 0), (v139 1), (v139 2), x141, (v139 4), (v139 5), (v139 6), (v139 7), (v139 8), (v139 9)], r137.2.2)]) (
 some (some 0, [v0, v1], H)) := by kernel_rfl
theorem laws_FnScriptSay_eq (a0 : V) (H : VH) : cv id_laws_FnScriptSay [a0] H =
 (vLenVV (strip a0)).bind fun x2 =>
 (vBinV (.int .i64) .gtr x2 (.int .i64 1048576)).bind fun x3 =>
 ifVV x3 (
 some ((.bool true), H)) (
 (cv id_spec_DrawSpeakMail [a0] H).bind fun r7 =>
 (aggNV 3 r7.1).bind fun c10 =>
 (pc id_impl_SpeakMail [(frz r7.2 (.agg [(strip (c10.getD 0 .nilp)), (strip (c10.getD 1 .nilp)), (strip (c10.getD 2 .nilp))]))]).bind fun x12 =>
 (vExtV x12 0).bind fun x14 =>
 (vExtV (stripAt 0 x12) 1).bind fun x15 =>
 (pc id_spec_SpeakMail [(frz r7.2 (.agg [(strip (c10.getD 0 .nilp)), (strip (c10.getD 1 .nilp)), (strip (c10.getD 2 .nilp))]))]).bind fun x19 =>
 (vExtV x19 0).bind fun x21 =>
 (vExtV x19 1).bind fun x22 =>
 (id (
 (qc id_laws_mwTexts [(frz r7.2 (strip x14)), (frz r7.2 (strip (strip (strip x21))))]).bind fun x27 =>
 (vUnV .not x27).bind fun x28 =>
 ifGV x28 (
 (qc id_laws_mwTexts [(frz r7.2 (strip x14)), (frz r7.2 (strip (strip (strip x21))))]).bind fun x35 =>
 ifGV x35 (
 (vBinV .bool .eql (strip x15) (strip x22)).bind fun x39 =>
 some (0, [x39], r7.2)) (
 some (0, [(.bool false)], r7.2))) (
 (vBinV .bool .neq (strip x15) (strip x22)).bind fun x46 =>
 ifGV x46 (
 (qc id_laws_mwTexts [(frz r7.2 (strip x14)), (frz r7.2 (strip (strip (strip x21))))]).bind fun x52 =>
 ifGV x52 (
 (vBinV .bool .eql (strip (strip x15)) (strip (strip x22))).bind fun x56 =>
 some (0, [x56], r7.2)) (
 some (0, [(.bool false)], r7.2))) (
 (vUnV .not (strip (strip x15))).bind fun x62 =>
 ifVV x62 (
 (qc id_laws_mwTexts [(frz r7.2 (strip x14)), (frz r7.2 (strip (strip (strip x21))))]).bind fun x66 =>
 ifGV x66 (
 (vBinV .bool .eql (strip (strip (strip x15))) (strip (strip x22))).bind fun x70 =>
 some (0, [x70], r7.2)) (
 some (0, [(.bool false)], r7.2))) (
 some (1, [x14], r7.2)))) : Option (Nat × List V × VH))).bind fun r75 =>
 inN r75.1 [
 gotV 1 r75.2.1 fun v76 =>
 some ((v76 0), r75.2.2),
 gotV 1 r75.2.1 fun v77 =>
 (appV false 1 16 [[(.str [72, 69, 76, 79, 32, 121])]] (v77 0)).bind fun x85 =>
 (lpW' laws_FnScriptSay_l13 [(.str []), (.str []), (strip x85), (.int .i64 0), (.int .i64 0), (.str []), (.str []), (.sl true []), (.sl true []), (.sl true [])] r75.2.2).bind fun r143 =>
 inN r143.1 [
 gotV 2 r143.2.1 fun v144 =>
 (vBinV .str .add (v144 0) (.str [100, 111, 110, 101, 10])).bind fun x146 =>
 (qc id_impl_RunScript [(frz r143.2.2 x146)]).bind fun x147 =>
 (vBinV .str .add (v144 1) (.str [100, 111, 110, 101, 32, 49, 10])).bind fun x149 =>
 (vBinV .str .eql x147 x149).bind fun x150 =>
 some (x150, r143.2.2),
 gotV 1 r143.2.1 fun v152 =>
 some ((v152 0), r143.2.2)]]) := (callV_eq vb _ _ _ rfl).trans (by kernel_rfl)
theorem spec_DrawSpeakMail_eq (a0 : V) (H : VH) : cv id_spec_DrawSpeakMail [a0] H =
 (cv id_spec_l13Open [a0] H).bind fun r3 =>
 (cv id_spec_l10DrawMail [(strip (strip r3.1))] r3.2).bind fun r8 =>
 (cv id_spec_l10WrongMail [(strip r3.1), (strip r8.1)] r8.2).bind fun r10 =>
 (aggNV 3 r10.1).bind fun c12 =>
 some ((.agg [(c12.getD 0 .nilp), (c12.getD 1 .nilp), (c12.getD 2 .nilp)]), r10.2) := (callV_eq vb _ _ _ rfl).trans (by kernel_rfl)
theorem spec_l13Open_eq (a0 : V) (H : VH) : cv id_spec_l13Open [a0] H =
 (id (
 (vLenVV (strip a0)).bind fun x2 =>
 (vBinV (.int .i64) .gtr x2 (.int .i64 2000)).bind fun x3 =>
 ifVV x3 (
 (vSliceVV 1 (strip a0) none (some (.int .i64 2000))).bind fun x5 =>
 some (0, [x5], H)) (
 some (0, [a0], H)) : Option (Nat × List V × VH))).bind fun r7 =>
 inN r7.1 [
 gotV 1 r7.2.1 fun v8 =>
 (vOneV (v8 0)).bind fun y11 =>
 some ((.ptr r7.2.2.length 0), (r7.2.2 ++ [[y11, (.int .i64 0)]]))] := (callV_eq vb _ _ _ rfl).trans (by kernel_rfl)
noncomputable def spec_l10DrawMail_l3 : List V -> VH -> Option (Option Nat × List V × VH) := roundV (vb.ctx cv lpW') (vb.b.ann 31) (vb.takes 31) ⟨⟨[0, 4], [(2, (2, 0)), (3, (3, 0))], [(2, 3), (3, 3)]⟩, [(.exit 0, ⟨[0], [(2, (2, 0)), (3, (3, 0))], [(2, 3), (3, 3)]⟩)]⟩ (loopIn Tryz.f31 3)
noncomputable def spec_l10DrawMail_l7 : List V -> VH -> Option (Option Nat × List V × VH) := roundV (vb.ctx cv lpW') (vb.b.ann 31) (vb.takes 31) ⟨⟨[0, 5], [(2, (2, 0)), (3, (3, 0))], [(2, 3), (3, 3)]⟩, [(.exit 2, ⟨[], [(2, (2, 0)), (3, (3, 0))], [(2, 3), (3, 3)]⟩)]⟩ (loopIn Tryz.f31 7)
theorem spec_l10DrawMail_l3_eq (v0 v1 v2 v3 v4 v5 v6 v7 : V) (H : VH) : spec_l10DrawMail_l3 [v0, v1, v2, v3, v4, v5, v6, v7] H =
 (vBinV (.int .i64) .gtr v1 (.int .i64 0)).bind fun x21 =>
 ifVV x21 (
 (cv id_spec_l13Rd_of [(strip v0), (.sl false (stripLL [[(.str [98, 111, 98, 64, 121, 46, 111, 114, 103])], [(.str [99, 121, 64, 120, 46, 111, 114, 103])], [(.str [66, 111, 98, 64, 121, 46, 111, 114, 103])]]))] H).bind fun r27 =>
 (vOneV r27.1).bind fun y29 =>
 (ownV v6).bind fun s31 =>
 (appV false 1 16 s31 (.sl true [[y29]])).bind fun x30 =>
 (vOneV x30).bind fun y34 =>
 (vBinV (.int .i64) .sub (strip v1) (.int .i64 1)).bind fun x36 =>
 some (none, [(strip v0), x36, v2, v3, v4, v5, y34, v7], r27.2)) (
 some (some 0, [v0, v2, v3, v4, v5, v6, v7], H)) := by kernel_rfl
theorem spec_l10DrawMail_l7_eq (v0 v1 v2 v3 v4 v5 v6 v7 : V) (H : VH) : spec_l10DrawMail_l7 [v0, v1, v2, v3, v4, v5, v6, v7] H =
 (vBinV (.int .i64) .gtr v1 (.int .i64 0)).bind fun x46 =>
 ifVV x46 (
 (cv id_spec_l13Rd_of [(strip v0), (.sl false (stripLL [[(.str [83, 117, 98, 106, 101, 99, 116, 58, 32, 120])], [(.str [])], [(.str [116, 101, 120, 116])], [(.str [46])], [(.str [46, 97])], [(.str [82, 101, 99, 101, 105, 118, 101, 100, 58, 32, 98, 121, 32, 104])]]))] H).bind fun r52 =>
 (vOneV r52.1).bind fun y54 =>
 (ownV v7).bind fun s56 =>
 (appV false 1 16 s56 (.sl true [[y54]])).bind fun x55 =>
 (vOneV x55).bind fun y59 =>
 (vBinV (.int .i64) .sub (strip v1) (.int .i64 1)).bind fun x61 =>
 some (none, [(strip v0), x61, v2, v3, v4, v5, v6, y59], r52.2)) (
 some (some 0, [v2, v3, v4, v5, v6, v7], H)) := by kernel_rfl
theorem spec_l10DrawMail_eq (a0 : V) (H : VH) : cv id_spec_l10DrawMail [a0] H =
 (cv id_spec_l13Rd_of [(strip a0), (.sl false (stripLL [[(.str [97, 110, 110, 64, 120, 46, 111, 114, 103])], [(.str [])], [(.str [98, 46, 99, 64, 100, 46, 101])]]))] H).bind fun r4 =>
 (cv id_spec_l13Rd_of [(strip (strip a0)), (.sl false (stripLL [[(.str [98, 111, 98, 64, 121, 46, 111, 114, 103])], [(.str [97, 110, 110, 64, 120, 46, 111, 114, 103])]]))] r4.2).bind fun r8 =>
 (vOneV r8.1).bind fun y10 =>
 (vOneV r4.1).bind fun y13 =>
 (cv id_spec_l13Rd_pick [(strip (strip (strip a0))), (.int .i64 3)] r8.2).bind fun r18 =>
 (lpW' spec_l10DrawMail_l3 [(strip (strip (strip a0))), r18.1, (.str []), (.sl true []), (.sl true []), y13, (.sl true [[y10]]), (.sl true [])] r18.2).bind fun r38 =>
 inN r38.1 [
 gotV 7 r38.2.1 fun v39 =>
 (cv id_spec_l13Rd_num [(strip (v39 0)), (.sl false (stripLL [[(.int .i64 2)], [(.int .i64 3)], [(.int .i64 1)], [(.int .i64 0)]]))] r38.2.2).bind fun r43 =>
 (lpW' spec_l10DrawMail_l7 [(strip (v39 0)), r43.1, (v39 1), (v39 2), (v39 3), (v39 4), (v39 5), (v39 6)] r43.2).bind fun r63 =>
 inN r63.1 [
 gotV 6 r63.2.1 fun v64 =>
 some ((.agg [(v64 3), (v64 4), (v64 5)]), r63.2.2)]] := (callV_eq vb _ _ _ rfl).trans (by kernel_rfl)
theorem spec_l13Rd_of_eq (a0 a1 : V) (H : VH) : cv id_spec_l13Rd_of [a0, a1] H =
 (vLenVV (strip a1)).bind fun x4 =>
 (cv id_spec_l13Rd_pick [(strip a0), (strip x4)] H).bind fun r6 =>
 (vIdxV 1 (strip a1) r6.1).bind fun x7 =>
 (ldO globB false false 1 x7 r6.2).bind fun r9 =>
 some (r9.1, r9.2) := (callV_eq vb _ _ _ rfl).trans (by kernel_rfl)
theorem spec_l13Rd_pick_eq (a0 a1 : V) (H : VH) : cv id_spec_l13Rd_pick [a0, a1] H =
 (vNilV (strip a0)).bind fun x3 =>
 (vOffV x3 1).bind fun x4 =>
 (ldO globB false false 1 x4 H).bind fun r6 =>
 (vBinV (.int .i64) .add r6.1 (.int .i64 1)).bind fun x7 =>
 (vNilV a0).bind fun x8 =>
 (vOffV x8 1).bind fun x9 =>
 (vOneV x7).bind fun y11 =>
 (stO x9 [y11] r6.2).bind fun H12 =>
 (id (
 (vBinV (.int .i64) .lss a1 (.int .i64 1)).bind fun x14 =>
 ifGV x14 (
 some (0, [(.int .i64 0)], H12)) (
 (vNilV (strip (strip a0))).bind fun x19 =>
 (vOffV x19 0).bind fun x20 =>
 (ldO globB false false 1 x20 H12).bind fun r22 =>
 (vLenVV r22.1).bind fun x23 =>
 (vBinV (.int .i64) .eql x23 (.int .i64 0)).bind fun x24 =>
 ifVV x24 (
 some (0, [(.int .i64 0)], r22.2)) (
 some (1, [(strip (strip (strip a0))), (strip a1)], r22.2))) : Option (Nat × List V × VH))).bind fun r27 =>
 inN r27.1 [
 gotV 1 r27.2.1 fun v28 =>
 some ((v28 0), r27.2.2),
 gotV 2 r27.2.1 fun v29 =>
 (vNilV (v29 0)).bind fun x31 =>
 (vOffV x31 1).bind fun x32 =>
 (ldO globB false false 1 x32 r27.2.2).bind fun r34 =>
 (vBinV (.int .i64) .sub r34.1 (.int .i64 1)).bind fun x35 =>
 (vNilV (strip (v29 0))).bind fun x39 =>
 (vOffV x39 0).bind fun x40 =>
 (ldO globB false false 1 x40 r34.2).bind fun r42 =>
 (vLenVV r42.1).bind fun x43 =>
 (vBinV (.int .i64) .lss x35 x43).bind fun x44 =>
 ifVV x44 (
 (vNilV (strip (strip (v29 0)))).bind fun x46 =>
 (vOffV x46 0).bind fun x47 =>
 (ldO globB false false 1 x47 r42.2).bind fun r49 =>
 (vIdxV 1 r49.1 (strip x35)).bind fun x51 =>
 (ldO globB false false 1 x51 r49.2).bind fun r53 =>
 (vConvV .i64 r53.1).bind fun x54 =>
 (vBinV (.int .i64) .rem x54 (v29 1)).bind fun x56 =>
 some (x56, r53.2)) (
 (vNilV (strip (strip (v29 0)))).bind fun x59 =>
 (vOffV x59 0).bind fun x60 =>
 (ldO globB false false 1 x60 r42.2).bind fun r62 =>
 (vNilV (strip (strip (strip (v29 0))))).bind fun x65 =>
 (vOffV x65 0).bind fun x66 =>
 (ldO globB false false 1 x66 r62.2).bind fun r68 =>
 (vLenVV r68.1).bind fun x69 =>
 (vBinV (.int .i64) .rem (strip x35) x69).bind fun x70 =>
 (vIdxV 1 r62.1 x70).bind fun x71 =>
 (ldO globB false false 1 x71 r68.2).bind fun r73 =>
 (vConvV .i64 r73.1).bind fun x74 =>
 (vBinV (.int .i64) .mul x74 (.int .i64 131)).bind fun x75 =>
 (vNilV (strip (strip (strip (strip (v29 0)))))).bind fun x77 =>
 (vOffV x77 0).bind fun x78 =>
 (ldO globB false false 1 x78 r73.2).bind fun r80 =>
 (vBinV (.int .i64) .mul (strip (strip x35)) (.int .i64 7)).bind fun x82 =>
 (vBinV (.int .i64) .add x82 (.int .i64 3)).bind fun x83 =>
 (vNilV (strip (strip (strip (strip (strip (v29 0))))))).bind fun x85 =>
 (vOffV x85 0).bind fun x86 =>
 (ldO globB false false 1 x86 r80.2).bind fun r88 =>
 (vLenVV r88.1).bind fun x89 =>
 (vBinV (.int .i64) .rem x83 x89).bind fun x90 =>
 (vIdxV 1 r80.1 x90).bind fun x91 =>
 (ldO globB false false 1 x91 r88.2).bind fun r93 =>
 (vConvV .i64 r93.1).bind fun x94 =>
 (vBinV (.int .i64) .mul x94 (.int .i64 1117)).bind fun x95 =>
 (vBinV (.int .i64) .add x75 x95).bind fun x96 =>
 (vBinV (.int .i64) .mul (strip (strip (strip x35))) (.int .i64 29)).bind fun x98 =>
 (vBinV (.int .i64) .add x96 x98).bind fun x99 =>
 (vNilV (strip (strip (strip (strip (strip (strip (v29 0)))))))).bind fun x102 =>
 (vOffV x102 0).bind fun x103 =>
 (ldO globB false false 1 x103 r93.2).bind fun r105 =>
 (vLenVV r105.1).bind fun x106 =>
 (vBinV (.int .i64) .quo (strip (strip (strip (strip x35)))) x106).bind fun x107 =>
 (vBinV (.int .i64) .mul x107 (.int .i64 53)).bind fun x108 =>
 (vBinV (.int .i64) .add x99 x108).bind fun x109 =>
 (vBinV (.int .i64) .quo (strip x109) (.int .i64 64)).bind fun x113 =>
 (vBinV (.int .i64) .xor x109 x113).bind fun x114 =>
 (vBinV (.int .i64) .rem x114 (v29 1)).bind fun x118 =>
 some (x118, r105.2))] := (callV_eq vb _ _ _ rfl).trans (by kernel_rfl)
theorem spec_l13Rd_num_eq (a0 a1 : V) (H : VH) : cv id_spec_l13Rd_num [a0, a1] H =
 (vLenVV (strip a1)).bind fun x4 =>
 (cv id_spec_l13Rd_pick [(strip a0), (strip x4)] H).bind fun r6 =>
 (vIdxV 1 (strip a1) r6.1).bind fun x7 =>
 (ldO globB false false 1 x7 r6.2).bind fun r9 =>
 some (r9.1, r9.2) := (callV_eq vb _ _ _ rfl).trans (by kernel_rfl)
theorem spec_l10WrongMail_eq (a0 a1 : V) (H : VH) : cv id_spec_l10WrongMail [a0, a1] H =
 (aggNV 3 a1).bind fun c1 =>
 (pc id_spec_l10Mail [(frz H (.agg [(strip (c1.getD 0 .nilp)), (strip (c1.getD 1 .nilp)), (strip (c1.getD 2 .nilp))]))]).bind fun x4 =>
 (aggNV 3 x4).bind fun c7 =>
 (cv id_spec_l13Rd_pick [(strip a0), (.int .i64 20)] H).bind fun r10 =>
 (vBinV (.int .i64) .eql r10.1 (.int .i64 0)).bind fun x11 =>
 ifVV x11 (
 (cv id_spec_l13Rd_of [(strip (strip a0)), (.sl false (stripLL [[(.str [120])], [(.str [97, 64, 66])], [(.str [60, 62])]]))] r10.2).bind fun r16 =>
 (vOneV r16.1).bind fun y19 =>
 some ((.agg [y19, (c7.getD 1 .nilp), (c7.getD 2 .nilp)]), r16.2)) (
 (vBinV (.int .i64) .eql r10.1 (.int .i64 1)).bind fun x22 =>
 ifVV x22 (
 some ((.agg [(c7.getD 0 .nilp), (.sl true []), (c7.getD 2 .nilp)]), r10.2)) (
 (vBinV (.int .i64) .eql r10.1 (.int .i64 2)).bind fun x29 =>
 ifVV x29 (
 (ownV (c7.getD 2 .nilp)).bind fun s35 =>
 (appV false 1 16 s35 (.sl true [[(.str [10])]])).bind fun x34 =>
 (vOneV x34).bind fun y38 =>
 some ((.agg [(c7.getD 0 .nilp), (c7.getD 1 .nilp), y38]), r10.2)) (
 some ((.agg [(c7.getD 0 .nilp), (c7.getD 1 .nilp), (c7.getD 2 .nilp)]), r10.2)))) := (callV_eq vb _ _ _ rfl).trans (by kernel_rfl)
theorem spec_l10Mail_eq (a0 : V) (H : VH) : cv id_spec_l10Mail [a0] H =
 (aggNV 3 a0).bind fun c1 =>
 (appV false 1 16 [] (c1.getD 1 .nilp)).bind fun x8 =>
 (appV false 1 16 [] (c1.getD 2 .nilp)).bind fun x12 =>
 (vOneV (strip (c1.getD 0 .nilp))).bind fun y14 =>
 (vOneV x8).bind fun y15 =>
 (vOneV x12).bind fun y16 =>
 some ((.agg [y14, y15, y16]), H) := (callV_eq vb _ _ _ rfl).trans (by kernel_rfl)
noncomputable def impl_SpeakMail_l5 : List V -> VH -> Option (Option Nat × List V × VH) := roundV (vb.ctx cv lpW') (vb.b.ann 25) (vb.takes 25) ⟨⟨[4, 18, 19, 20], [(1, (1, 0))], [(1, 3)]⟩, [(.exit 0, ⟨[4], [(1, (1, 0))], [(1, 3)]⟩)]⟩ (loopIn Tryz.f25 5)
noncomputable def impl_SpeakMail_l11 : List V -> VH -> Option (Option Nat × List V × VH) := roundV (vb.ctx cv lpW') (vb.b.ann 25) (vb.takes 25) ⟨⟨[4, 35, 36, 37], [], []⟩, [(.exit 2, ⟨[4], [], []⟩)]⟩ (loopIn Tryz.f25 11)
theorem impl_SpeakMail_l5_eq (v0 v1 v2 v3 v4 v5 v6 : V) (H : VH) : impl_SpeakMail_l5 [v0, v1, v2, v3, v4, v5, v6] H =
 (vBinV (.int .i64) .lss v3 v2).bind fun x20 =>
 ifVV x20 (
 (vIdxV 1 v1 v3).bind fun x21 =>
 (ldO globB false false 1 x21 H).bind fun r23 =>
 (vBinV .str .add (.str [82, 67, 80, 84, 32, 84, 79, 58, 60]) r23.1).bind fun x27 =>
 (vBinV .str .add x27 (.str [62])).bind fun x28 =>
 (vOneV x28).bind fun y30 =>
 (ownV v0).bind fun s32 =>
 (appV false 1 16 s32 (.sl true [[y30]])).bind fun x31 =>
 (vBinV (.int .i64) .add v3 (.int .i64 1)).bind fun x34 =>
 some (none, [x31, v1, v2, x34, v4, v5, v6], r23.2)) (
 some (some 0, [v0, v4, v5, v6], H)) := by kernel_rfl
theorem impl_SpeakMail_l11_eq (v0 v1 v2 v3 : V) (H : VH) : impl_SpeakMail_l11 [v0, v1, v2, v3] H =
 (vBinV (.int .i64) .lss v3 v2).bind fun x47 =>
 ifVV x47 (
 (vIdxV 1 v1 v3).bind fun x48 =>
 (ldO globB false false 1 x48 H).bind fun r50 =>
 (qc id_impl_stuffed [(frz r50.2 r50.1)]).bind fun x54 =>
 (vOneV x54).bind fun y56 =>
 (ownV v0).bind fun s58 =>
 (appV false 1 16 s58 (.sl true [[y56]])).bind fun x57 =>
 (vBinV (.int .i64) .add v3 (.int .i64 1)).bind fun x60 =>
 some (none, [x57, v1, v2, x60], r50.2)) (
 some (some 0, [v0], H)) := by kernel_rfl
theorem impl_SpeakMail_eq (a0 : V) (H : VH) : cv id_impl_SpeakMail [a0] H =
 (aggNV 3 a0).bind fun c1 =>
 (qc id_impl_MailValid [(frz H (.agg [(strip (c1.getD 0 .nilp)), (strip (c1.getD 1 .nilp)), (strip (c1.getD 2 .nilp))]))]).bind fun x5 =>
 (vUnV .not x5).bind fun x6 =>
 ifVV x6 (
 some ((.tup [(.sl true []), (.bool false)]), H)) (
 (vBinV .str .add (.str [77, 65, 73, 76, 32, 70, 82, 79, 77, 58, 60]) (strip (c1.getD 0 .nilp))).bind fun x11 =>
 (vBinV .str .add x11 (.str [62])).bind fun x12 =>
 (vOneV x12).bind fun y14 =>
 (vLenVV (strip (c1.getD 1 .nilp))).bind fun x18 =>
 (lpW' impl_SpeakMail_l5 [(.sl true [[y14]]), (strip (c1.getD 1 .nilp)), x18, (.int .i64 0), (c1.getD 0 .nilp), (c1.getD 1 .nilp), (c1.getD 2 .nilp)] H).bind fun r36 =>
 inN r36.1 [
 gotV 4 r36.2.1 fun v37 =>
 (ownV (v37 0)).bind fun s41 =>
 (appV false 1 16 s41 (.sl true [[(.str [68, 65, 84, 65])]])).bind fun x40 =>
 (vLenVV (strip (v37 3))).bind fun x45 =>
 (lpW' impl_SpeakMail_l11 [x40, (strip (v37 3)), x45, (.int .i64 0)] r36.2.2).bind fun r62 =>
 inN r62.1 [
 gotV 1 r62.2.1 fun v63 =>
 (qc id_slices_ContainsFunc___string_string_ [(frz r62.2.2 (strip (v63 0))), (frz r62.2.2 (.fn id_impl_SpeakMail_1 []))]).bind fun x65 =>
 ifVV x65 (
 some ((.tup [(.sl true []), (.bool false)]), r62.2.2)) (
 (ownV (v63 0)).bind fun s71 =>
 (appV false 1 16 s71 (.sl true [[(.str [46])]])).bind fun x70 =>
 some ((.tup [x70, (.bool true)]), r62.2.2))]]) := (callV_eq vb _ _ _ rfl).trans (by kernel_rfl)
theorem impl_MailValid_eq (a0 : V) (H : VH) : cv id_impl_MailValid [a0] H =
 (aggNV 3 a0).bind fun c1 =>
 (qc id_impl_draftValid [(frz H (.agg [(strip (c1.getD 0 .nilp)), (strip (c1.getD 1 .nilp)), (strip (c1.getD 2 .nilp))])), (frz H (.int .i64 1)), (frz H (.int .i64 30))]).bind fun x4 =>
 some (x4, H) := (callV_eq vb _ _ _ rfl).trans (by kernel_rfl)
theorem impl_draftValid_eq (a0 a1 a2 : V) (H : VH) : cv id_impl_draftValid [a0, a1, a2] H =
 (aggNV 3 a0).bind fun c1 =>
 (qc id_impl_isFrom [(frz H (strip (c1.getD 0 .nilp)))]).bind fun x5 =>
 ifGV x5 (
 (vLenVV (strip (c1.getD 1 .nilp))).bind fun x9 =>
 (vBinV (.int .i64) .geq x9 a1).bind fun x11 =>
 ifGV x11 (
 (vLenVV (strip (c1.getD 1 .nilp))).bind fun x16 =>
 (vBinV (.int .i64) .leq x16 (.int .i64 10)).bind fun x17 =>
 ifGV x17 (
 (qc id_slices_ContainsFunc___string_string_ [(frz H (strip (c1.getD 1 .nilp))), (frz H (.fn id_impl_draftValid_1 []))]).bind fun x22 =>
 (vUnV .not x22).bind fun x23 =>
 ifGV x23 (
 (qc id_impl_areTexts [(frz H (strip (c1.getD 2 .nilp))), (frz H a2)]).bind fun x29 =>
 some (x29, H)) (
 some ((.bool false), H))) (
 some ((.bool false), H))) (
 some ((.bool false), H))) (
 some ((.bool false), H)) := (callV_eq vb _ _ _ rfl).trans (by kernel_rfl)
theorem impl_isFrom_eq (a0 : V) (H : VH) : cv id_impl_isFrom [a0] H =
 (vBinV .str .eql a0 (.str [])).bind fun x2 =>
 ifGV x2 (
 some ((.bool true), H)) (
 (qc id_impl_isPath [(frz H (strip a0))]).bind fun x7 =>
 some (x7, H)) := (callV_eq vb _ _ _ rfl).trans (by kernel_rfl)
theorem impl_isPath_eq (a0 : V) (H : VH) : cv id_impl_isPath [a0] H =
 (qc id_strings_Cut [(frz H a0), (frz H (.str [64]))]).bind fun x2 =>
 (vExtV x2 0).bind fun x4 =>
 (vExtV x2 1).bind fun x5 =>
 (vExtV x2 2).bind fun x6 =>
 ifGV (strip x6) (
 (qc id_impl_isLocal [(frz H (strip x4))]).bind fun x13 =>
 ifGV x13 (
 (qc id_impl_isDomain [(frz H (strip x5))]).bind fun x17 =>
 some (x17, H)) (
 some ((.bool false), H))) (
 some ((.bool false), H)) := (callV_eq vb _ _ _ rfl).trans (by kernel_rfl)
theorem strings_Cut_eq (a0 a1 : V) (H : VH) : cv id_strings_Cut [a0, a1] H =
 (qc id_internal_stringslite_Cut [(frz H a0), (frz H a1)]).bind fun x5 =>
 (vExtV x5 0).bind fun x6 =>
 (vExtV x5 1).bind fun x7 =>
 (vExtV x5 2).bind fun x8 =>
 some ((.tup [(strip x6), (strip x7), (strip x8)]), H) := (callV_eq vb _ _ _ rfl).trans (by kernel_rfl)
theorem internal_stringslite_Cut_eq (a0 a1 : V) (H : VH) : cv id_internal_stringslite_Cut [a0, a1] H =
 (qc id_internal_stringslite_Index [(frz H a0), (frz H a1)]).bind fun x5 =>
 (vBinV (.int .i64) .geq x5 (.int .i64 0)).bind fun x8 =>
 ifVV x8 (
 (vSliceSV (strip a0) none (some (strip x5))).bind fun x11 =>
 (vLenSV (strip a1)).bind fun x15 =>
 (vBinV (.int .i64) .add (strip (strip x5)) x15).bind fun x16 =>
 (vSliceSV (strip (strip a0)) (some x16) none).bind fun x17 =>
 some ((.tup [x11, x17, (.bool true)]), H)) (
 some ((.tup [(strip a0), (.str []), (.bool false)]), H)) := (callV_eq vb _ _ _ rfl).trans (by kernel_rfl)
noncomputable def internal_stringslite_Index_l15 : List V -> VH -> Option (Option Nat × List V × VH) := roundV (vb.ctx cv lpW') (vb.b.ann 174) (vb.takes 174) ⟨⟨[0, 1, 5, 6, 7, 8, 9, 10], [], []⟩, [(.exit 1, ⟨[], [], []⟩), (.ret, ⟨[4], [], []⟩)]⟩ (loopIn Tryz.f174 15)
theorem internal_stringslite_Index_eq (a0 a1 : V) (H : VH) : cv id_internal_stringslite_Index [a0, a1] H =
 (vLenSV a1).bind fun x2 =>
 (id (
 (vBinV (.int .i64) .eql x2 (.int .i64 0)).bind fun x5 =>
 ifGV x5 (
 some (0, [(.int .i64 0)], H)) (
 (vBinV .str .eql (strip a1) a0).bind fun x12 =>
 ifVV x12 (
 some (0, [(.int .i64 0)], H)) (
 (vBinV (.int .i64) .eql (strip x2) (.int .i64 1)).bind fun x17 =>
 ifVV x17 (
 (vIndexSV (strip (strip a1)) (.int .i64 0)).bind fun x21 =>
 (qc id_internal_stringslite_IndexByte [(frz H (strip a0)), (frz H x21)]).bind fun x22 =>
 some (0, [x22], H)) (
 (vLenSV (strip a0)).bind fun x26 =>
 (vBinV (.int .i64) .geq (strip (strip x2)) x26).bind fun x27 =>
 ifVV x27 (
 some (0, [(.int .i64 (-1))], H)) (
 (ldO globB false false 1 (.gp 1 0) H).bind fun r32 =>
 (vBinV (.int .i64) .leq (strip (strip (strip x2))) r32.1).bind fun x33 =>
 ifGV x33 (
 (vLenSV (strip (strip a0))).bind fun x36 =>
 (vBinV (.int .i64) .leq x36 (.int .i64 64)).bind fun x37 =>
 ifVV x37 (
 (extB 2 [(strip (strip (strip a0))), (strip (strip a1))] fun x42 =>
  some (0, [x42], r32.2))) (
 some (1, [(strip (strip (strip a0))), (strip (strip a1)), (strip (strip (strip (strip x2))))], r32.2))) (
 some (1, [(strip (strip a0)), (strip (strip a1)), (strip (strip (strip (strip x2))))], r32.2)))))) : Option (Nat × List V × VH))).bind fun r46 =>
 inN r46.1 [
 gotV 1 r46.2.1 fun v47 =>
 some ((v47 0), r46.2.2),
 gotV 3 r46.2.1 fun v48 =>
 (vIndexSV (v48 1) (.int .i64 0)).bind fun x50 =>
 (vIndexSV (strip (v48 1)) (.int .i64 1)).bind fun x53 =>
 (vLenSV (v48 0)).bind fun x57 =>
 (vBinV (.int .i64) .sub x57 (v48 2)).bind fun x59 =>
 (vBinV (.int .i64) .add x59 (.int .i64 1)).bind fun x60 =>
 (lpW' internal_stringslite_Index_l15 [(strip (v48 0)), (strip (strip (v48 1))), (strip (v48 2)), x50, x53, (.int .i64 0), x60, (.int .i64 0)] r46.2.2).bind fun r208 =>
 inN r208.1 [
 gotV 0 r208.2.1 fun v209 =>
 some ((.int .i64 (-1)), r208.2.2),
 gotV 1 r208.2.1 fun v211 =>
 some ((v211 0), r208.2.2)]] := (callV_eq vb _ _ _ rfl).trans (by kernel_rfl)
theorem internal_stringslite_IndexByte_eq (a0 a1 : V) (H : VH) : cv id_internal_stringslite_IndexByte [a0, a1] H =
 (extB 0 [a0, a1] fun x3 =>
  some (x3, H)) := (callV_eq vb _ _ _ rfl).trans (by kernel_rfl)
noncomputable def internal_bytealg_IndexRabinKarp_string__l5 : List V -> VH -> Option (Option Nat × List V × VH) := roundV (vb.ctx cv lpW') (vb.b.ann 213) (vb.takes 213) ⟨⟨[0, 1, 5, 6, 7, 8, 9], [], []⟩, [(.exit 0, ⟨[0, 1, 5, 6, 7, 8], [], []⟩)]⟩ (loopIn Tryz.f213 5)
noncomputable def internal_bytealg_IndexRabinKarp_string__l11 : List V -> VH -> Option (Option Nat × List V × VH) := roundV (vb.ctx cv lpW') (vb.b.ann 213) (vb.takes 213) ⟨⟨[0, 1, 5, 6, 7, 8, 10], [], []⟩, [(.exit 2, ⟨[], [], []⟩), (.ret, ⟨[4], [], []⟩)]⟩ (loopIn Tryz.f213 11)
noncomputable def internal_bytealg_hashStr_string__l3 : List V -> VH -> Option (Option Nat × List V × VH) := roundV (vb.ctx cv lpW') (vb.b.ann 236) (vb.takes 236) ⟨⟨[0, 4, 5], [], []⟩, [(.exit 0, ⟨[0, 4], [], []⟩)]⟩ (loopIn Tryz.f236 3)
noncomputable def internal_bytealg_hashStr_string__l8 : List V -> VH -> Option (Option Nat × List V × VH) := roundV (vb.ctx cv lpW') (vb.b.ann 236) (vb.takes 236) ⟨⟨[4, 6, 7, 8], [], []⟩, [(.exit 2, ⟨[4, 6], [], []⟩)]⟩ (loopIn Tryz.f236 8)
theorem impl_isLocal_eq (a0 : V) (H : VH) : cv id_impl_isLocal [a0] H =
 (vLenSV a0).bind fun x2 =>
 (vBinV (.int .i64) .leq x2 (.int .i64 30)).bind fun x3 =>
 ifGV x3 (
 (pc id_strings_Split [(frz H (strip a0)), (frz H (.str [46]))]).bind fun x6 =>
 (qc id_slices_ContainsFunc___string_string_ [(frz H x6), (frz H (.fn id_impl_isLocal_1 []))]).bind fun x7 =>
 (vUnV .not x7).bind fun x8 =>
 some (x8, H)) (
 some ((.bool false), H)) := (callV_eq vb _ _ _ rfl).trans (by kernel_rfl)
theorem strings_Split_eq (a0 a1 : V) (H : VH) : cv id_strings_Split [a0, a1] H =
 (pc id_strings_genSplit [(frz H a0), (frz H a1), (frz H (.int .i64 0)), (frz H (.int .i64 (-1)))]).bind fun x3 =>
 some (x3, H) := (callV_eq vb _ _ _ rfl).trans (by kernel_rfl)
noncomputable def strings_genSplit_l11 : List V -> VH -> Option (Option Nat × List V × VH) := roundV (vb.ctx cv lpW') (vb.b.ann 117) (vb.takes 117) ⟨⟨[0, 1, 2, 3, 9, 10], [], []⟩, [(.exit 0, ⟨[0, 9, 10], [], []⟩)]⟩ (loopIn Tryz.f117 11)
theorem strings_genSplit_l11_eq (v0 v1 v2 v3 v4 v5 : V) (H : VH) : strings_genSplit_l11 [v0, v1, v2, v3, v4, v5] H =
 (vBinV (.int .i64) .lss v5 v3).bind fun x34 =>
 ifVV x34 (
 (qc id_strings_Index [(frz H v0), (frz H v1)]).bind fun x37 =>
 (vBinV (.int .i64) .lss x37 (.int .i64 0)).bind fun x40 =>
 ifVV x40 (
 some (some 0, [(strip v0), v4, (strip v5)], H)) (
 (vBinV (.int .i64) .add (strip x37) v2).bind fun x46 =>
 (vSliceSV (strip v0) none (some x46)).bind fun x47 =>
 (vIdxV 1 (strip v4) (strip v5)).bind fun x48 =>
 (vOneV x47).bind fun y50 =>
 (stO x48 [y50] H).bind fun H51 =>
 (vLenSV (strip v1)).bind fun x55 =>
 (vBinV (.int .i64) .add (strip (strip x37)) x55).bind fun x56 =>
 (vSliceSV (strip (strip v0)) (some x56) none).bind fun x57 =>
 (vBinV (.int .i64) .add (strip (strip v5)) (.int .i64 1)).bind fun x60 =>
 some (none, [x57, (strip (strip v1)), (strip v2), (strip v3), v4, x60], H51))) (
 some (some 0, [v0, v4, (strip v5)], H)) := by kernel_rfl
theorem strings_genSplit_eq (a0 a1 a2 a3 : V) (H : VH) : cv id_strings_genSplit [a0, a1, a2, a3] H =
 (vBinV (.int .i64) .eql a3 (.int .i64 0)).bind fun x2 =>
 ifVV x2 (
 some ((.sl true []), H)) (
 (vBinV .str .eql a1 (.str [])).bind fun x5 =>
 ifVV x5 (
 (pc id_strings_explode [(frz H a0), (frz H (strip a3))]).bind fun x8 =>
 some (x8, H)) (
 (id (
 (vBinV (.int .i64) .lss (strip a3) (.int .i64 0)).bind fun x11 =>
 ifVV x11 (
 (qc id_strings_Count [(frz H a0), (frz H (strip a1))]).bind fun x14 =>
 (vBinV (.int .i64) .add x14 (.int .i64 1)).bind fun x15 =>
 some (0, [(strip a0), (strip (strip a1)), a2, x15], H)) (
 some (0, [a0, (strip a1), a2, (strip (strip a3))], H)) : Option (Nat × List V × VH))).bind fun r17 =>
 inN r17.1 [
 gotV 4 r17.2.1 fun v18 =>
 (vLenSV (v18 0)).bind fun x21 =>
 (vBinV (.int .i64) .add x21 (.int .i64 1)).bind fun x22 =>
 (vMinV (v18 3) x22).bind fun x23 =>
 (mkLenV 16 x23 x23).bind fun x26 =>
 (vBinV (.int .i64) .sub (strip x23) (.int .i64 1)).bind fun x29 =>
 (lpW' strings_genSplit_l11 [(strip (v18 0)), (v18 1), (v18 2), x29, (.obs r17.2.2.length 0 x26.1 1), (.int .i64 0)] (r17.2.2 ++ [repV x26.2 [(.str [])]])).bind fun r62 =>
 inN r62.1 [
 gotV 3 r62.2.1 fun v63 =>
 (vIdxV 1 (strip (v63 1)) (v63 2)).bind fun x67 =>
 (vOneV (v63 0)).bind fun y69 =>
 (stO x67 [y69] r62.2.2).bind fun H70 =>
 (vBinV (.int .i64) .add (strip (v63 2)) (.int .i64 1)).bind fun x73 =>
 (vSliceVV 1 (strip (v63 1)) none (some x73)).bind fun x74 =>
 some (x74, H70)]])) := (callV_eq vb _ _ _ rfl).trans (by kernel_rfl)
noncomputable def strings_explode_l6 : List V -> VH -> Option (Option Nat × List V × VH) := roundV (vb.ctx cv lpW') (vb.b.ann 146) (vb.takes 146) ⟨⟨[0, 1, 6, 7], [], []⟩, [(.exit 0, ⟨[0, 1, 6], [], []⟩)]⟩ (loopIn Tryz.f146 6)
noncomputable def strings_Count_l6 : List V -> VH -> Option (Option Nat × List V × VH) := roundV (vb.ctx cv lpW') (vb.b.ann 147) (vb.takes 147) ⟨⟨[0, 1, 5], [], []⟩, [(.ret, ⟨[4], [], []⟩)]⟩ (loopIn Tryz.f147 6)
theorem strings_Count_eq (a0 a1 : V) (H : VH) : cv id_strings_Count [a0, a1] H =
 (vLenSV a1).bind fun x2 =>
 (vBinV (.int .i64) .eql x2 (.int .i64 0)).bind fun x3 =>
 ifVV x3 (
 (qc id_unicode_utf8_RuneCountInString [(frz H a0)]).bind fun x5 =>
 (vBinV (.int .i64) .add x5 (.int .i64 1)).bind fun x6 =>
 some (x6, H)) (
 (vLenSV (strip a1)).bind fun x9 =>
 (vBinV (.int .i64) .eql x9 (.int .i64 1)).bind fun x10 =>
 ifVV x10 (
 (vIndexSV (strip (strip a1)) (.int .i64 0)).bind fun x13 =>
 (extB 1 [a0, x13] fun x14 =>
  some (x14, H))) (
 (lpW' strings_Count_l6 [a0, (strip (strip a1)), (.int .i64 0)] H).bind fun r35 =>
 inN r35.1 [
 gotV 1 r35.2.1 fun v36 =>
 some ((v36 0), r35.2.2)])) := (callV_eq vb _ _ _ rfl).trans (by kernel_rfl)
theorem strings_Index_eq (a0 a1 : V) (H : VH) : cv id_strings_Index [a0, a1] H =
 (qc id_internal_stringslite_Index [(frz H a0), (frz H a1)]).bind fun x3 =>
 some (x3, H) := (callV_eq vb _ _ _ rfl).trans (by kernel_rfl)
theorem slices_ContainsFunc___string_string__eq (a0 a1 : V) (H : VH) : cv id_slices_ContainsFunc___string_string_ [a0, a1] H =
 (qc id_slices_IndexFunc___string_string_ [(frz H (strip a0)), (frz H a1)]).bind fun x3 =>
 (vBinV (.int .i64) .geq x3 (.int .i64 0)).bind fun x4 =>
 some (x4, H) := (callV_eq vb _ _ _ rfl).trans (by kernel_rfl)
noncomputable def slices_IndexFunc___string_string__l2 : List V -> VH -> Option (Option Nat × List V × VH) := roundV (vb.ctx cv lpW') (vb.b.ann 123) (vb.takes 123) ⟨⟨[0, 1, 7, 8], [], []⟩, [(.exit 0, ⟨[], [], []⟩), (.ret, ⟨[4], [], []⟩)]⟩ (loopIn Tryz.f123 2)
theorem slices_IndexFunc___string_string__l2_eq (v0 v1 v2 v3 : V) (H : VH) : slices_IndexFunc___string_string__l2 [v0, v1, v2, v3] H =
 (vBinV (.int .i64) .lss v3 v2).bind fun x4 =>
 ifVV x4 (
 (vIdxV 1 (strip v0) v3).bind fun x10 =>
 (ldO globB false false 1 x10 H).bind fun r12 =>
 (calleeV v1).bind fun p14 =>
 (qc p14.1 ((([r12.1] : List V) ++ p14.2).map (frz r12.2))).bind fun x13 =>
 ifVV x13 (
 some (some 1, [(strip v3)], r12.2)) (
 (vBinV (.int .i64) .add (strip v3) (.int .i64 1)).bind fun x17 =>
 some (none, [v0, (strip v1), v2, x17], r12.2))) (
 some (some 0, [], H)) := by kernel_rfl
theorem slices_IndexFunc___string_string__eq (a0 a1 : V) (H : VH) : cv id_slices_IndexFunc___string_string_ [a0, a1] H =
 (vLenVV (strip a0)).bind fun x2 =>
 (lpW' slices_IndexFunc___string_string__l2 [a0, a1, x2, (.int .i64 0)] H).bind fun r19 =>
 inN r19.1 [
 gotV 0 r19.2.1 fun v20 =>
 some ((.int .i64 (-1)), r19.2.2),
 gotV 1 r19.2.1 fun v22 =>
 some ((v22 0), r19.2.2)] := (callV_eq vb _ _ _ rfl).trans (by kernel_rfl)
theorem impl_isLocal_1_eq (a0 : V) (H : VH) : cv id_impl_isLocal_1 [a0] H =
 (qc id_impl_AtomValid [(frz H a0)]).bind fun x2 =>
 (vUnV .not x2).bind fun x3 =>
 some (x3, H) := (callV_eq vb _ _ _ rfl).trans (by kernel_rfl)
theorem impl_AtomValid_eq (a0 : V) (H : VH) : cv id_impl_AtomValid [a0] H =
 (vLenSV a0).bind fun x2 =>
 (vBinV (.int .i64) .geq x2 (.int .i64 1)).bind fun x3 =>
 ifGV x3 (
 (vLenSV (strip a0)).bind fun x6 =>
 (vBinV (.int .i64) .leq x6 (.int .i64 40)).bind fun x7 =>
 ifGV x7 (
 (qc id_impl_allBytes [(frz H (strip (strip a0))), (frz H (.fn id_impl_isAtomByte []))]).bind fun x11 =>
 some (x11, H)) (
 some ((.bool false), H))) (
 some ((.bool false), H)) := (callV_eq vb _ _ _ rfl).trans (by kernel_rfl)
noncomputable def impl_allBytes_l2 : List V -> VH -> Option (Option Nat × List V × VH) := roundV (vb.ctx cv lpW') (vb.b.ann 128) (vb.takes 128) ⟨⟨[0, 1, 7, 8], [], []⟩, [(.exit 0, ⟨[], [], []⟩), (.ret, ⟨[4], [], []⟩)]⟩ (loopIn Tryz.f128 2)
theorem impl_allBytes_l2_eq (v0 v1 v2 v3 : V) (H : VH) : impl_allBytes_l2 [v0, v1, v2, v3] H =
 (vBinV (.int .i64) .lss v3 v2).bind fun x4 =>
 ifVV x4 (
 (vIndexSV v0 v3).bind fun x10 =>
 (calleeV v1).bind fun p12 =>
 (qc p12.1 ((([x10] : List V) ++ p12.2).map (frz H))).bind fun x11 =>
 (vUnV .not x11).bind fun x13 =>
 ifVV x13 (
 some (some 1, [(.bool false)], H)) (
 (vBinV (.int .i64) .add (strip v3) (.int .i64 1)).bind fun x15 =>
 some (none, [(strip v0), (strip v1), v2, x15], H))) (
 some (some 0, [], H)) := by kernel_rfl
theorem impl_allBytes_eq (a0 a1 : V) (H : VH) : cv id_impl_allBytes [a0, a1] H =
 (vLenSV a0).bind fun x2 =>
 (lpW' impl_allBytes_l2 [(strip a0), a1, x2, (.int .i64 0)] H).bind fun r17 =>
 inN r17.1 [
 gotV 0 r17.2.1 fun v18 =>
 some ((.bool true), r17.2.2),
 gotV 1 r17.2.1 fun v20 =>
 some ((v20 0), r17.2.2)] := (callV_eq vb _ _ _ rfl).trans (by kernel_rfl)
theorem impl_isAtomByte_eq (a0 : V) (H : VH) : cv id_impl_isAtomByte [a0] H =
 (qc id_impl_isLetter [(frz H a0)]).bind fun x2 =>
 ifGV x2 (
 some ((.bool true), H)) (
 (qc id_impl_isDigit [(frz H (strip a0))]).bind fun x27 =>
 ifGV x27 (
 some ((.bool true), H)) (
 (vBinV (.int .u8) .eql (strip (strip a0)) (.int .u8 33)).bind fun x51 =>
 ifGV x51 (
 some ((.bool true), H)) (
 (vBinV (.int .u8) .geq (strip (strip (strip a0))) (.int .u8 35)).bind fun x73 =>
 ifGV x73 (
 (vBinV (.int .u8) .leq (strip (strip (strip (strip a0)))) (.int .u8 39)).bind fun x76 =>
 ifGV x76 (
 some ((.bool true), H)) (
 (vBinV (.int .u8) .eql (strip (strip (strip (strip (strip a0))))) (.int .u8 42)).bind fun x97 =>
 ifGV x97 (
 some ((.bool true), H)) (
 (vBinV (.int .u8) .eql (strip (strip (strip (strip (strip (strip a0)))))) (.int .u8 43)).bind fun x115 =>
 ifGV x115 (
 some ((.bool true), H)) (
 (vBinV (.int .u8) .eql (strip (strip (strip (strip (strip (strip (strip a0))))))) (.int .u8 45)).bind fun x131 =>
 ifGV x131 (
 some ((.bool true), H)) (
 (vBinV (.int .u8) .eql (strip (strip (strip (strip (strip (strip (strip (strip a0)))))))) (.int .u8 47)).bind fun x145 =>
 ifGV x145 (
 some ((.bool true), H)) (
 (vBinV (.int .u8) .eql (strip (strip (strip (strip (strip (strip (strip (strip (strip a0))))))))) (.int .u8 61)).bind fun x157 =>
 ifGV x157 (
 some ((.bool true), H)) (
 (vBinV (.int .u8) .eql (strip (strip (strip (strip (strip (strip (strip (strip (strip (strip a0)))))))))) (.int .u8 63)).bind fun x167 =>
 ifGV x167 (
 some ((.bool true), H)) (
 (vBinV (.int .u8) .geq (strip (strip (strip (strip (strip (strip (strip (strip (strip (strip (strip a0))))))))))) (.int .u8 94)).bind fun x175 =>
 ifGV x175 (
 (vBinV (.int .u8) .leq (strip (strip (strip (strip (strip (strip (strip (strip (strip (strip (strip (strip a0)))))))))))) (.int .u8 96)).bind fun x178 =>
 ifGV x178 (
 some ((.bool true), H)) (
 (vBinV (.int .u8) .geq (strip (strip (strip (strip (strip (strip (strip (strip (strip (strip (strip (strip (strip a0))))))))))))) (.int .u8 123)).bind fun x185 =>
 ifGV x185 (
 (vBinV (.int .u8) .leq (strip (strip (strip (strip (strip (strip (strip (strip (strip (strip (strip (strip (strip (strip a0)))))))))))))) (.int .u8 126)).bind fun x188 =>
 some (x188, H)) (
 some ((.bool false), H)))) (
 (vBinV (.int .u8) .geq (strip (strip (strip (strip (strip (strip (strip (strip (strip (strip (strip (strip a0)))))))))))) (.int .u8 123)).bind fun x199 =>
 ifGV x199 (
 (vBinV (.int .u8) .leq (strip (strip (strip (strip (strip (strip (strip (strip (strip (strip (strip (strip (strip a0))))))))))))) (.int .u8 126)).bind fun x202 =>
 some (x202, H)) (
 some ((.bool false), H))))))))))) (
 (vBinV (.int .u8) .eql (strip (strip (strip (strip a0)))) (.int .u8 42)).bind fun x213 =>
 ifGV x213 (
 some ((.bool true), H)) (
 (vBinV (.int .u8) .eql (strip (strip (strip (strip (strip a0))))) (.int .u8 43)).bind fun x231 =>
 ifGV x231 (
 some ((.bool true), H)) (
 (vBinV (.int .u8) .eql (strip (strip (strip (strip (strip (strip a0)))))) (.int .u8 45)).bind fun x247 =>
 ifGV x247 (
 some ((.bool true), H)) (
 (vBinV (.int .u8) .eql (strip (strip (strip (strip (strip (strip (strip a0))))))) (.int .u8 47)).bind fun x261 =>
 ifGV x261 (
 some ((.bool true), H)) (
 (vBinV (.int .u8) .eql (strip (strip (strip (strip (strip (strip (strip (strip a0)))))))) (.int .u8 61)).bind fun x273 =>
 ifGV x273 (
 some ((.bool true), H)) (
 (vBinV (.int .u8) .eql (strip (strip (strip (strip (strip (strip (strip (strip (strip a0))))))))) (.int .u8 63)).bind fun x283 =>
 ifGV x283 (
 some ((.bool true), H)) (
 (vBinV (.int .u8) .geq (strip (strip (strip (strip (strip (strip (strip (strip (strip (strip a0)))))))))) (.int .u8 94)).bind fun x291 =>
 ifGV x291 (
 (vBinV (.int .u8) .leq (strip (strip (strip (strip (strip (strip (strip (strip (strip (strip (strip a0))))))))))) (.int .u8 96)).bind fun x294 =>
 ifGV x294 (
 some ((.bool true), H)) (
 (vBinV (.int .u8) .geq (strip (strip (strip (strip (strip (strip (strip (strip (strip (strip (strip (strip a0)))))))))))) (.int .u8 123)).bind fun x301 =>
 ifGV x301 (
 (vBinV (.int .u8) .leq (strip (strip (strip (strip (strip (strip (strip (strip (strip (strip (strip (strip (strip a0))))))))))))) (.int .u8 126)).bind fun x304 =>
 some (x304, H)) (
 some ((.bool false), H)))) (
 (vBinV (.int .u8) .geq (strip (strip (strip (strip (strip (strip (strip (strip (strip (strip (strip a0))))))))))) (.int .u8 123)).bind fun x315 =>
 ifGV x315 (
 (vBinV (.int .u8) .leq (strip (strip (strip (strip (strip (strip (strip (strip (strip (strip (strip (strip a0)))))))))))) (.int .u8 126)).bind fun x318 =>
 some (x318, H)) (
 some ((.bool false), H))))))))))))) := (callV_eq vb _ _ _ rfl).trans (by kernel_rfl)
theorem impl_isLetter_eq (a0 : V) (H : VH) : cv id_impl_isLetter [a0] H =
 (vBinV (.int .u8) .geq a0 (.int .u8 97)).bind fun x2 =>
 ifGV x2 (
 (vBinV (.int .u8) .leq (strip a0) (.int .u8 122)).bind fun x5 =>
 ifGV x5 (
 some ((.bool true), H)) (
 (vBinV (.int .u8) .geq (strip (strip a0)) (.int .u8 65)).bind fun x11 =>
 ifGV x11 (
 (vBinV (.int .u8) .leq (strip (strip (strip a0))) (.int .u8 90)).bind fun x14 =>
 some (x14, H)) (
 some ((.bool false), H)))) (
 (vBinV (.int .u8) .geq (strip a0) (.int .u8 65)).bind fun x24 =>
 ifGV x24 (
 (vBinV (.int .u8) .leq (strip (strip a0)) (.int .u8 90)).bind fun x27 =>
 some (x27, H)) (
 some ((.bool false), H))) := (callV_eq vb _ _ _ rfl).trans (by kernel_rfl)
theorem impl_isDigit_eq (a0 : V) (H : VH) : cv id_impl_isDigit [a0] H =
 (vBinV (.int .u8) .geq a0 (.int .u8 48)).bind fun x2 =>
 ifGV x2 (
 (vBinV (.int .u8) .leq (strip a0) (.int .u8 57)).bind fun x5 =>
 some (x5, H)) (
 some ((.bool false), H)) := (callV_eq vb _ _ _ rfl).trans (by kernel_rfl)
theorem impl_isDomain_eq (a0 : V) (H : VH) : cv id_impl_isDomain [a0] H =
 (vLenSV a0).bind fun x2 =>
 (vBinV (.int .i64) .leq x2 (.int .i64 40)).bind fun x3 =>
 ifGV x3 (
 (pc id_strings_Split [(frz H (strip a0)), (frz H (.str [46]))]).bind fun x6 =>
 (qc id_slices_ContainsFunc___string_string_ [(frz H x6), (frz H (.fn id_impl_isDomain_1 []))]).bind fun x7 =>
 (vUnV .not x7).bind fun x8 =>
 some (x8, H)) (
 some ((.bool false), H)) := (callV_eq vb _ _ _ rfl).trans (by kernel_rfl)
theorem impl_isDomain_1_eq (a0 : V) (H : VH) : cv id_impl_isDomain_1 [a0] H =
 (qc id_impl_isLabel [(frz H a0)]).bind fun x2 =>
 (vUnV .not x2).bind fun x3 =>
 some (x3, H) := (callV_eq vb _ _ _ rfl).trans (by kernel_rfl)
theorem impl_isLabel_eq (a0 : V) (H : VH) : cv id_impl_isLabel [a0] H =
 (vBinV .str .neq a0 (.str [])).bind fun x2 =>
 ifGV x2 (
 (vIndexSV (strip a0) (.int .i64 0)).bind fun x5 =>
 (vBinV (.int .u8) .neq x5 (.int .u8 45)).bind fun x6 =>
 ifGV x6 (
 (vLenSV (strip (strip (strip a0)))).bind fun x11 =>
 (vBinV (.int .i64) .sub x11 (.int .i64 1)).bind fun x12 =>
 (vIndexSV (strip (strip a0)) x12).bind fun x13 =>
 (vBinV (.int .u8) .neq x13 (.int .u8 45)).bind fun x14 =>
 ifGV x14 (
 (qc id_impl_allBytes [(frz H (strip (strip (strip (strip a0))))), (frz H (.fn id_impl_isLabel_1 []))]).bind fun x18 =>
 some (x18, H)) (
 some ((.bool false), H))) (
 some ((.bool false), H))) (
 some ((.bool false), H)) := (callV_eq vb _ _ _ rfl).trans (by kernel_rfl)
theorem impl_isLabel_1_eq (a0 : V) (H : VH) : cv id_impl_isLabel_1 [a0] H =
 (vBinV (.int .u8) .geq a0 (.int .u8 97)).bind fun x2 =>
 ifGV x2 (
 (vBinV (.int .u8) .leq (strip a0) (.int .u8 122)).bind fun x5 =>
 ifGV x5 (
 some ((.bool true), H)) (
 (qc id_impl_isDigit [(frz H (strip (strip a0)))]).bind fun x13 =>
 ifGV x13 (
 some ((.bool true), H)) (
 (vBinV (.int .u8) .eql (strip (strip (strip a0))) (.int .u8 45)).bind fun x19 =>
 some (x19, H)))) (
 (qc id_impl_isDigit [(frz H (strip a0))]).bind fun x25 =>
 ifGV x25 (
 some ((.bool true), H)) (
 (vBinV (.int .u8) .eql (strip (strip a0)) (.int .u8 45)).bind fun x31 =>
 some (x31, H))) := (callV_eq vb _ _ _ rfl).trans (by kernel_rfl)
theorem impl_draftValid_1_eq (a0 : V) (H : VH) : cv id_impl_draftValid_1 [a0] H =
 (qc id_impl_isPath [(frz H a0)]).bind fun x2 =>
 (vUnV .not x2).bind fun x3 =>
 some (x3, H) := (callV_eq vb _ _ _ rfl).trans (by kernel_rfl)
theorem impl_areTexts_eq (a0 a1 : V) (H : VH) : cv id_impl_areTexts [a0, a1] H =
 (vLenVV (strip a0)).bind fun x2 =>
 (vBinV (.int .i64) .leq x2 a1).bind fun x4 =>
 ifGV x4 (
 (qc id_slices_ContainsFunc___string_string_ [(frz H (strip a0)), (frz H (.fn id_impl_areTexts_1 []))]).bind fun x7 =>
 (vUnV .not x7).bind fun x8 =>
 some (x8, H)) (
 some ((.bool false), H)) := (callV_eq vb _ _ _ rfl).trans (by kernel_rfl)
theorem impl_areTexts_1_eq (a0 : V) (H : VH) : cv id_impl_areTexts_1 [a0] H =
 (qc id_impl_TextValid [(frz H a0)]).bind fun x2 =>
 (vUnV .not x2).bind fun x3 =>
 some (x3, H) := (callV_eq vb _ _ _ rfl).trans (by kernel_rfl)
noncomputable def impl_TextValid_l2 : List V -> VH -> Option (Option Nat × List V × VH) := roundV (vb.ctx cv lpW') (vb.b.ann 69) (vb.takes 69) ⟨⟨[0, 5, 6], [], []⟩, [(.exit 0, ⟨[0], [], []⟩), (.ret, ⟨[2], [], []⟩)]⟩ (loopIn Tryz.f69 2)
theorem impl_TextValid_l2_eq (v0 v1 v2 : V) (H : VH) : impl_TextValid_l2 [v0, v1, v2] H =
 (vBinV (.int .i64) .lss v2 v1).bind fun x4 =>
 ifVV x4 (
 (vIndexSV v0 v2).bind fun x9 =>
 (vBinV (.int .u8) .lss x9 (.int .u8 32)).bind fun x10 =>
 ifGV x10 (
 some (some 1, [(.bool false)], H)) (
 (vIndexSV (strip v0) (strip v2)).bind fun x16 =>
 (vBinV (.int .u8) .gtr x16 (.int .u8 126)).bind fun x17 =>
 ifVV x17 (
 some (some 1, [(.bool false)], H)) (
 (vBinV (.int .i64) .add (strip v2) (.int .i64 1)).bind fun x20 =>
 some (none, [(strip (strip v0)), v1, x20], H)))) (
 some (some 0, [v0], H)) := by kernel_rfl
theorem impl_TextValid_eq (a0 : V) (H : VH) : cv id_impl_TextValid [a0] H =
 (vLenSV a0).bind fun x2 =>
 (lpW' impl_TextValid_l2 [(strip a0), x2, (.int .i64 0)] H).bind fun r22 =>
 inN r22.1 [
 gotV 1 r22.2.1 fun v23 =>
 (vLenSV (v23 0)).bind fun x25 =>
 (vBinV (.int .i64) .leq x25 (.int .i64 200)).bind fun x26 =>
 some (x26, r22.2.2),
 gotV 1 r22.2.1 fun v28 =>
 some ((v28 0), r22.2.2)] := (callV_eq vb _ _ _ rfl).trans (by kernel_rfl)
theorem impl_stuffed_eq (a0 : V) (H : VH) : cv id_impl_stuffed [a0] H =
 (qc id_strings_HasPrefix [(frz H a0), (frz H (.str [46]))]).bind fun x2 =>
 ifVV x2 (
 (vBinV .str .add (.str [46]) (strip a0)).bind fun x4 =>
 some (x4, H)) (
 some ((strip a0), H)) := (callV_eq vb _ _ _ rfl).trans (by kernel_rfl)
theorem strings_HasPrefix_eq (a0 a1 : V) (H : VH) : cv id_strings_HasPrefix [a0, a1] H =
 (qc id_internal_stringslite_HasPrefix [(frz H a0), (frz H a1)]).bind fun x3 =>
 some (x3, H) := (callV_eq vb _ _ _ rfl).trans (by kernel_rfl)
theorem internal_stringslite_HasPrefix_eq (a0 a1 : V) (H : VH) : cv id_internal_stringslite_HasPrefix [a0, a1] H =
 (vLenSV a0).bind fun x2 =>
 (vLenSV a1).bind fun x4 =>
 (vBinV (.int .i64) .geq x2 x4).bind fun x5 =>
 ifGV x5 (
 (vLenSV (strip a1)).bind fun x9 =>
 (vSliceSV (strip a0) none (some x9)).bind fun x10 =>
 (vBinV .str .eql x10 (strip (strip a1))).bind fun x12 =>
 some (x12, H)) (
 some ((.bool false), H)) := (callV_eq vb _ _ _ rfl).trans (by kernel_rfl)
theorem impl_SpeakMail_1_eq (a0 : V) (H : VH) : cv id_impl_SpeakMail_1 [a0] H =
 (qc id_impl_TextValid [(frz H a0)]).bind fun x2 =>
 (vUnV .not x2).bind fun x3 =>
 some (x3, H) := (callV_eq vb _ _ _ rfl).trans (by kernel_rfl)
noncomputable def spec_SpeakMail_l5 : List V -> VH -> Option (Option Nat × List V × VH) := roundV (vb.ctx cv lpW') (vb.b.ann 26) (vb.takes 26) ⟨⟨[4, 5], [(1, (1, 0))], [(1, 3)]⟩, [(.exit 0, ⟨[4], [(1, (1, 0))], [(1, 3)]⟩)]⟩ (loopIn Tryz.f26 5)
noncomputable def spec_SpeakMail_l10 : List V -> VH -> Option (Option Nat × List V × VH) := roundV (vb.ctx cv lpW') (vb.b.ann 26) (vb.takes 26) ⟨⟨[4, 6], [(1, (1, 0))], [(1, 3)]⟩, [(.exit 2, ⟨[4], [], []⟩), (.ret, ⟨[2, 3], [], []⟩)]⟩ (loopIn Tryz.f26 10)
theorem spec_SpeakMail_l5_eq (v0 v1 v2 v3 v4 : V) (H : VH) : spec_SpeakMail_l5 [v0, v1, v2, v3, v4] H =
 (vLenVV (strip v3)).bind fun x21 =>
 (vBinV (.int .i64) .lss v1 x21).bind fun x22 =>
 ifVV x22 (
 (vIdxV 1 (strip v3) (strip v1)).bind fun x27 =>
 (ldO globB false false 1 x27 H).bind fun r29 =>
 (vBinV .str .add (.str [82, 67, 80, 84, 32, 84, 79, 58, 60]) r29.1).bind fun x30 =>
 (vBinV .str .add x30 (.str [62])).bind fun x31 =>
 (vOneV x31).bind fun y33 =>
 (ownV v0).bind fun s35 =>
 (appV false 1 16 s35 (.sl true [[y33]])).bind fun x34 =>
 (vBinV (.int .i64) .add (strip (strip v1)) (.int .i64 1)).bind fun x38 =>
 some (none, [x34, x38, v2, v3, v4], r29.2)) (
 some (some 0, [v0, v2, v3, v4], H)) := by kernel_rfl
theorem spec_SpeakMail_l10_eq (v0 v1 v2 v3 v4 : V) (H : VH) : spec_SpeakMail_l10 [v0, v1, v2, v3, v4] H =
 (vLenVV (strip v4)).bind fun x51 =>
 (vBinV (.int .i64) .lss v1 x51).bind fun x52 =>
 ifVV x52 (
 (id (
 (vIdxV 1 (strip v4) (strip v1)).bind fun x56 =>
 (ldO globB false false 1 x56 H).bind fun r58 =>
 (id (
 (vBinV .str .neq r58.1 (.str [])).bind fun x61 =>
 ifGV x61 (
 (vIndexSV (strip r58.1) (.int .i64 0)).bind fun x64 =>
 (vBinV (.int .u8) .eql x64 (.int .u8 46)).bind fun x65 =>
 ifVV x65 (
 (vBinV .str .add (.str [46]) (strip (strip r58.1))).bind fun x68 =>
 some (0, [v0, (strip (strip v1)), x68, v2, v3, v4], r58.2)) (
 some (0, [v0, (strip (strip v1)), (strip (strip r58.1)), v2, v3, v4], r58.2))) (
 some (0, [v0, (strip (strip v1)), (strip r58.1), v2, v3, v4], r58.2)) : Option (Nat × List V × VH))).bind fun r71 =>
 inN r71.1 [
 gotV 6 r71.2.1 fun v72 =>
 (qc id_spec_TextValid [(frz r71.2.2 (v72 2))]).bind fun x74 =>
 (vUnV .not x74).bind fun x75 =>
 ifVV x75 (
 some (0, [(.sl true []), (.bool false)], r71.2.2)) (
 (vOneV (strip (v72 2))).bind fun y82 =>
 (ownV (v72 0)).bind fun s84 =>
 (appV false 1 16 s84 (.sl true [[y82]])).bind fun x83 =>
 some (1, [x83, (v72 1), (v72 3), (v72 4), (v72 5)], r71.2.2))] : Option (Nat × List V × VH))).bind fun r86 =>
 inN r86.1 [
 gotV 2 r86.2.1 fun v87 =>
 some (some 1, [(v87 0), (v87 1)], r86.2.2),
 gotV 5 r86.2.1 fun v88 =>
 (vBinV (.int .i64) .add (v88 1) (.int .i64 1)).bind fun x90 =>
 some (none, [(v88 0), x90, (v88 2), (v88 3), (v88 4)], r86.2.2)]) (
 some (some 0, [v0], H)) := by kernel_rfl
theorem spec_SpeakMail_eq (a0 : V) (H : VH) : cv id_spec_SpeakMail [a0] H =
 (aggNV 3 a0).bind fun c1 =>
 (qc id_spec_MailValid [(frz H (.agg [(strip (c1.getD 0 .nilp)), (strip (c1.getD 1 .nilp)), (strip (c1.getD 2 .nilp))]))]).bind fun x5 =>
 (vUnV .not x5).bind fun x6 =>
 ifVV x6 (
 some ((.tup [(.sl true []), (.bool false)]), H)) (
 (vBinV .str .add (.str [77, 65, 73, 76, 32, 70, 82, 79, 77, 58, 60]) (strip (c1.getD 0 .nilp))).bind fun x12 =>
 (vBinV .str .add x12 (.str [62])).bind fun x13 =>
 (vOneV x13).bind fun y15 =>
 (lpW' spec_SpeakMail_l5 [(.sl true [[y15]]), (.int .i64 0), (c1.getD 0 .nilp), (c1.getD 1 .nilp), (c1.getD 2 .nilp)] H).bind fun r40 =>
 inN r40.1 [
 gotV 4 r40.2.1 fun v41 =>
 (ownV (v41 0)).bind fun s45 =>
 (appV false 1 16 s45 (.sl true [[(.str [68, 65, 84, 65])]])).bind fun x44 =>
 (lpW' spec_SpeakMail_l10 [x44, (.int .i64 0), (v41 1), (v41 2), (v41 3)] r40.2.2).bind fun r92 =>
 inN r92.1 [
 gotV 1 r92.2.1 fun v93 =>
 (ownV (v93 0)).bind fun s97 =>
 (appV false 1 16 s97 (.sl true [[(.str [46])]])).bind fun x96 =>
 some ((.tup [x96, (.bool true)]), r92.2.2),
 gotV 2 r92.2.1 fun v100 =>
 some ((.tup [(v100 0), (v100 1)]), r92.2.2)]]) := (callV_eq vb _ _ _ rfl).trans (by kernel_rfl)
theorem spec_MailValid_eq (a0 : V) (H : VH) : cv id_spec_MailValid [a0] H =
 (aggNV 3 a0).bind fun c1 =>
 (qc id_spec_l10Draft [(frz H (.agg [(strip (c1.getD 0 .nilp)), (strip (c1.getD 1 .nilp)), (strip (c1.getD 2 .nilp))]))]).bind fun x4 =>
 ifGV x4 (
 (vLenVV (strip (c1.getD 1 .nilp))).bind fun x8 =>
 (vBinV (.int .i64) .gtr x8 (.int .i64 0)).bind fun x9 =>
 ifGV x9 (
 (vLenVV (strip (c1.getD 2 .nilp))).bind fun x14 =>
 (vBinV (.int .i64) .leq x14 (.int .i64 30)).bind fun x15 =>
 some (x15, H)) (
 some ((.bool false), H))) (
 some ((.bool false), H)) := (callV_eq vb _ _ _ rfl).trans (by kernel_rfl)
noncomputable def spec_l10Draft_l4 : List V -> VH -> Option (Option Nat × List V × VH) := roundV (vb.ctx cv lpW') (vb.b.ann 87) (vb.takes 87) ⟨⟨[3], [(1, (1, 0))], [(1, 3)]⟩, [(.exit 0, ⟨[], [(1, (1, 0))], [(1, 3)]⟩), (.ret, ⟨[2], [], []⟩)]⟩ (loopIn Tryz.f87 4)
noncomputable def spec_l10Draft_l9 : List V -> VH -> Option (Option Nat × List V × VH) := roundV (vb.ctx cv lpW') (vb.b.ann 87) (vb.takes 87) ⟨⟨[4], [(1, (1, 0))], [(1, 3)]⟩, [(.exit 2, ⟨[], [], []⟩), (.ret, ⟨[2], [], []⟩)]⟩ (loopIn Tryz.f87 9)
theorem spec_l10Draft_l4_eq (v0 v1 v2 v3 : V) (H : VH) : spec_l10Draft_l4 [v0, v1, v2, v3] H =
 (vLenVV (strip v2)).bind fun x54 =>
 (vBinV (.int .i64) .lss v0 x54).bind fun x55 =>
 ifVV x55 (
 (vIdxV 1 (strip v2) (strip v0)).bind fun x59 =>
 (ldO globB false false 1 x59 H).bind fun r61 =>
 (qc id_spec_l10Box [(frz r61.2 r61.1)]).bind fun x62 =>
 (vUnV .not x62).bind fun x63 =>
 ifVV x63 (
 some (some 1, [(.bool false)], r61.2)) (
 (vBinV (.int .i64) .add (strip (strip v0)) (.int .i64 1)).bind fun x66 =>
 some (none, [x66, v1, v2, v3], r61.2))) (
 some (some 0, [v1, v2, v3], H)) := by kernel_rfl
theorem spec_l10Draft_l9_eq (v0 v1 v2 v3 : V) (H : VH) : spec_l10Draft_l9 [v0, v1, v2, v3] H =
 (vLenVV (strip v3)).bind fun x74 =>
 (vBinV (.int .i64) .lss v0 x74).bind fun x75 =>
 ifVV x75 (
 (vIdxV 1 (strip v3) (strip v0)).bind fun x79 =>
 (ldO globB false false 1 x79 H).bind fun r81 =>
 (qc id_spec_TextValid [(frz r81.2 r81.1)]).bind fun x82 =>
 (vUnV .not x82).bind fun x83 =>
 ifVV x83 (
 some (some 1, [(.bool false)], r81.2)) (
 (vBinV (.int .i64) .add (strip (strip v0)) (.int .i64 1)).bind fun x86 =>
 some (none, [x86, v1, v2, v3], r81.2))) (
 some (some 0, [], H)) := by kernel_rfl
theorem spec_l10Draft_eq (a0 : V) (H : VH) : cv id_spec_l10Draft [a0] H =
 (aggNV 3 a0).bind fun c1 =>
 (id (
 (vBinV .str .neq (strip (c1.getD 0 .nilp)) (.str [])).bind fun x5 =>
 ifGV x5 (
 (qc id_spec_l10Box [(frz H (strip (c1.getD 0 .nilp)))]).bind fun x9 =>
 (vUnV .not x9).bind fun x10 =>
 ifGV x10 (
 some (0, [(.bool false)], H)) (
 (vLenVV (strip (c1.getD 1 .nilp))).bind fun x19 =>
 (vBinV (.int .i64) .gtr x19 (.int .i64 10)).bind fun x20 =>
 ifGV x20 (
 some (0, [(.bool false)], H)) (
 (vLenVV (strip (c1.getD 2 .nilp))).bind fun x27 =>
 (vBinV (.int .i64) .gtr x27 (.int .i64 31)).bind fun x28 =>
 ifVV x28 (
 some (0, [(.bool false)], H)) (
 some (1, [(c1.getD 0 .nilp), (c1.getD 1 .nilp), (c1.getD 2 .nilp)], H))))) (
 (vLenVV (strip (c1.getD 1 .nilp))).bind fun x35 =>
 (vBinV (.int .i64) .gtr x35 (.int .i64 10)).bind fun x36 =>
 ifGV x36 (
 some (0, [(.bool false)], H)) (
 (vLenVV (strip (c1.getD 2 .nilp))).bind fun x43 =>
 (vBinV (.int .i64) .gtr x43 (.int .i64 31)).bind fun x44 =>
 ifVV x44 (
 some (0, [(.bool false)], H)) (
 some (1, [(c1.getD 0 .nilp), (c1.getD 1 .nilp), (c1.getD 2 .nilp)], H)))) : Option (Nat × List V × VH))).bind fun r47 =>
 inN r47.1 [
 gotV 1 r47.2.1 fun v48 =>
 some ((v48 0), r47.2.2),
 gotV 3 r47.2.1 fun v49 =>
 (lpW' spec_l10Draft_l4 [(.int .i64 0), (v49 0), (v49 1), (v49 2)] r47.2.2).bind fun r68 =>
 inN r68.1 [
 gotV 3 r68.2.1 fun v69 =>
 (lpW' spec_l10Draft_l9 [(.int .i64 0), (v69 0), (v69 1), (v69 2)] r68.2.2).bind fun r88 =>
 inN r88.1 [
 gotV 0 r88.2.1 fun v89 =>
 some ((.bool true), r88.2.2),
 gotV 1 r88.2.1 fun v91 =>
 some ((v91 0), r88.2.2)],
 gotV 1 r68.2.1 fun v92 =>
 some ((v92 0), r68.2.2)]] := (callV_eq vb _ _ _ rfl).trans (by kernel_rfl)
theorem spec_l10Box_eq (a0 : V) (H : VH) : cv id_spec_l10Box [a0] H =
 (pc id_spec_l2Box [(frz H a0)]).bind fun x2 =>
 (vExtV x2 0).bind fun x4 =>
 (vExtV x2 1).bind fun x5 =>
 (aggNV 3 (strip x4)).bind fun c8 =>
 ifGV (strip x5) (
 (vBinV .str .add (strip (c8.getD 1 .nilp)) (.str [64])).bind fun x14 =>
 (vBinV .str .add x14 (strip (c8.getD 2 .nilp))).bind fun x17 =>
 (vBinV .str .eql x17 (strip a0)).bind fun x19 =>
 some (x19, H)) (
 some ((.bool false), H)) := (callV_eq vb _ _ _ rfl).trans (by kernel_rfl)
theorem spec_l2Box_eq (a0 : V) (H : VH) : cv id_spec_l2Box [a0] H =
 (qc id_spec_l2Cut [(frz H a0), (frz H (.int .u8 64))]).bind fun x3 =>
 (vExtV x3 0).bind fun x5 =>
 (vExtV x3 1).bind fun x6 =>
 (vExtV x3 2).bind fun x7 =>
 (qc id_spec_LowerText [(frz H (strip x6))]).bind fun x13 =>
 (vOneV (strip x5)).bind fun y15 =>
 (vOneV x13).bind fun y16 =>
 ifGV (strip x7) (
 (qc id_spec_AddressValid [(frz H (.agg [(.str []), (strip y15), (strip y16)]))]).bind fun x23 =>
 some ((.tup [(.agg [(.str []), (strip y15), (strip y16)]), x23]), H)) (
 some ((.tup [(.agg [(.str []), (strip y15), (strip y16)]), (.bool false)]), H)) := (callV_eq vb _ _ _ rfl).trans (by kernel_rfl)
noncomputable def spec_l2Cut_l2 : List V -> VH -> Option (Option Nat × List V × VH) := roundV (vb.ctx cv lpW') (vb.b.ann 177) (vb.takes 177) ⟨⟨[0, 1, 7], [], []⟩, [(.exit 0, ⟨[0], [], []⟩), (.ret, ⟨[4, 5, 6], [], []⟩)]⟩ (loopIn Tryz.f177 2)
theorem spec_l2Cut_l2_eq (v0 v1 v2 : V) (H : VH) : spec_l2Cut_l2 [v0, v1, v2] H =
 (vLenSV v0).bind fun x6 =>
 (vBinV (.int .i64) .lss v2 x6).bind fun x7 =>
 ifVV x7 (
 (vIndexSV (strip v0) (strip v2)).bind fun x10 =>
 (vBinV (.int .u8) .eql x10 (.int .u8 34)).bind fun x11 =>
 ifVV x11 (
 (qc id_spec_l1Read [(frz H (strip (strip v0))), (frz H (strip (strip v2)))]).bind fun x14 =>
 (vExtV x14 0).bind fun x16 =>
 (vExtV x14 1).bind fun x17 =>
 (vBinV (.int .i64) .lss (strip x17) (.int .i64 0)).bind fun x21 =>
 ifVV x21 (
 some (some 1, [(strip (strip (strip v0))), (.str []), (.bool false)], H)) (
 some (none, [(strip (strip (strip v0))), v1, (strip (strip x17))], H))) (
 (vIndexSV (strip (strip v0)) (strip (strip v2))).bind fun x30 =>
 (vBinV (.int .u8) .eql x30 v1).bind fun x32 =>
 ifVV x32 (
 (vSliceSV (strip (strip (strip v0))) none (some (strip (strip (strip v2))))).bind fun x35 =>
 (vBinV (.int .i64) .add (strip (strip (strip (strip v2)))) (.int .i64 1)).bind fun x38 =>
 (vSliceSV (strip (strip (strip (strip v0)))) (some x38) none).bind fun x39 =>
 some (some 1, [x35, x39, (.bool true)], H)) (
 (vBinV (.int .i64) .add (strip (strip (strip v2))) (.int .i64 1)).bind fun x44 =>
 some (none, [(strip (strip (strip v0))), (strip v1), x44], H)))) (
 some (some 0, [(strip v0)], H)) := by kernel_rfl
theorem spec_l2Cut_eq (a0 a1 : V) (H : VH) : cv id_spec_l2Cut [a0, a1] H =
 (lpW' spec_l2Cut_l2 [a0, a1, (.int .i64 0)] H).bind fun r46 =>
 inN r46.1 [
 gotV 1 r46.2.1 fun v47 =>
 some ((.tup [(v47 0), (.str []), (.bool false)]), r46.2.2),
 gotV 3 r46.2.1 fun v52 =>
 some ((.tup [(v52 0), (v52 1), (v52 2)]), r46.2.2)] := (callV_eq vb _ _ _ rfl).trans (by kernel_rfl)
noncomputable def spec_l1Read_l3 : List V -> VH -> Option (Option Nat × List V × VH) := roundV (vb.ctx cv lpW') (vb.b.ann 215) (vb.takes 215) ⟨⟨[0, 6, 7], [], []⟩, [(.exit 0, ⟨[], [], []⟩), (.ret, ⟨[4, 5], [], []⟩)]⟩ (loopIn Tryz.f215 3)
theorem spec_l1Read_l3_eq (v0 v1 v2 : V) (H : VH) : spec_l1Read_l3 [v0, v1, v2] H =
 (vLenSV v0).bind fun x8 =>
 (vBinV (.int .i64) .lss v2 x8).bind fun x9 =>
 ifVV x9 (
 (id (
 (vIndexSV (strip v0) (strip v2)).bind fun x12 =>
 (vBinV (.int .u8) .eql x12 (.int .u8 34)).bind fun x13 =>
 ifVV x13 (
 (vBinV (.int .i64) .add (strip (strip v2)) (.int .i64 1)).bind fun x16 =>
 some (0, [v1, x16], H)) (
 (id (
 (vIndexSV (strip (strip v0)) (strip (strip v2))).bind fun x21 =>
 (vBinV (.int .u8) .eql x21 (.int .u8 92)).bind fun x22 =>
 ifVV x22 (
 (vBinV (.int .i64) .add (strip (strip (strip v2))) (.int .i64 1)).bind fun x24 =>
 (vLenSV (strip (strip (strip v0)))).bind fun x28 =>
 (vBinV (.int .i64) .eql x24 x28).bind fun x29 =>
 ifVV x29 (
 some (0, [(.str []), (.int .i64 (-1))], H)) (
 some (1, [(strip (strip (strip (strip v0)))), v1, (strip x24)], H))) (
 some (1, [(strip (strip (strip v0))), v1, (strip (strip (strip v2)))], H)) : Option (Nat × List V × VH))).bind fun r32 =>
 inN r32.1 [
 gotV 2 r32.2.1 fun v33 =>
 some (0, [(v33 0), (v33 1)], r32.2.2),
 gotV 3 r32.2.1 fun v34 =>
 (vBinV (.int .i64) .add (strip (v34 2)) (.int .i64 1)).bind fun x39 =>
 (vSliceSV (v34 0) (some (v34 2)) (some x39)).bind fun x40 =>
 (vBinV .str .add (v34 1) x40).bind fun x41 =>
 some (1, [(strip (v34 0)), x41, (strip (strip (v34 2)))], r32.2.2)]) : Option (Nat × List V × VH))).bind fun r43 =>
 inN r43.1 [
 gotV 2 r43.2.1 fun v44 =>
 some (some 1, [(v44 0), (v44 1)], r43.2.2),
 gotV 3 r43.2.1 fun v45 =>
 (vBinV (.int .i64) .add (v45 2) (.int .i64 1)).bind fun x47 =>
 some (none, [(v45 0), (v45 1), x47], r43.2.2)]) (
 some (some 0, [], H)) := by kernel_rfl
theorem spec_l1Read_eq (a0 a1 : V) (H : VH) : cv id_spec_l1Read [a0, a1] H =
 (vBinV (.int .i64) .add a1 (.int .i64 1)).bind fun x4 =>
 (lpW' spec_l1Read_l3 [a0, (.str []), x4] H).bind fun r49 =>
 inN r49.1 [
 gotV 0 r49.2.1 fun v50 =>
 some ((.tup [(.str []), (.int .i64 (-1))]), r49.2.2),
 gotV 2 r49.2.1 fun v53 =>
 some ((.tup [(v53 0), (v53 1)]), r49.2.2)] := (callV_eq vb _ _ _ rfl).trans (by kernel_rfl)
noncomputable def spec_LowerText_l3 : List V -> VH -> Option (Option Nat × List V × VH) := roundV (vb.ctx cv lpW') (vb.b.ann 172) (vb.takes 172) ⟨⟨[3, 4], [], []⟩, [(.exit 0, ⟨[3], [], []⟩)]⟩ (loopIn Tryz.f172 3)
theorem spec_LowerText_l3_eq (v0 v1 : V) (H : VH) : spec_LowerText_l3 [v0, v1] H =
 (vLenVV (strip v0)).bind fun x7 =>
 (vBinV (.int .i64) .lss v1 x7).bind fun x8 =>
 ifVV x8 (
 (id (
 (vIdxV 1 (strip v0) (strip v1)).bind fun x11 =>
 (ldO globB false false 1 x11 H).bind fun r13 =>
 (vBinV (.int .u8) .geq r13.1 (.int .u8 65)).bind fun x14 =>
 ifGV x14 (
 (vIdxV 1 (strip v0) (strip (strip v1))).bind fun x18 =>
 (ldO globB false false 1 x18 r13.2).bind fun r20 =>
 (vBinV (.int .u8) .leq r20.1 (.int .u8 90)).bind fun x21 =>
 ifVV x21 (
 (vIdxV 1 (strip v0) (strip (strip (strip (strip v1))))).bind fun x27 =>
 (ldO globB false false 1 x27 r20.2).bind fun r29 =>
 (vBinV (.int .u8) .add r29.1 (.int .u8 32)).bind fun x30 =>
 (vIdxV 1 (strip v0) (strip (strip (strip v1)))).bind fun x31 =>
 (vOneV x30).bind fun y33 =>
 (stO x31 [y33] r29.2).bind fun H34 =>
 some (0, [v0, (strip (strip (strip (strip (strip v1)))))], H34)) (
 some (0, [v0, (strip (strip (strip v1)))], r20.2))) (
 some (0, [v0, (strip (strip v1))], r13.2)) : Option (Nat × List V × VH))).bind fun r36 =>
 inN r36.1 [
 gotV 2 r36.2.1 fun v37 =>
 (vBinV (.int .i64) .add (v37 1) (.int .i64 1)).bind fun x39 =>
 some (none, [(v37 0), x39], r36.2.2)]) (
 some (some 0, [v0], H)) := by kernel_rfl
theorem spec_LowerText_eq (a0 : V) (H : VH) : cv id_spec_LowerText [a0] H =
 (s2bV a0).bind fun x2 =>
 (lpW' spec_LowerText_l3 [(.obs H.length 0 x2.length 1), (.int .i64 0)] (H ++ [x2])).bind fun r41 =>
 inN r41.1 [
 gotV 1 r41.2.1 fun v42 =>
 (b2sV (strip (v42 0)) r41.2.2).bind fun x44 =>
 some (x44, r41.2.2)] := (callV_eq vb _ _ _ rfl).trans (by kernel_rfl)
theorem spec_AddressValid_eq (a0 : V) (H : VH) : cv id_spec_AddressValid [a0] H =
 (aggNV 3 a0).bind fun c1 =>
 (qc id_spec_l2Name [(frz H (strip (c1.getD 0 .nilp)))]).bind fun x5 =>
 ifGV x5 (
 (vLenSV (strip (c1.getD 1 .nilp))).bind fun x9 =>
 (vBinV (.int .i64) .leq x9 (.int .i64 30)).bind fun x10 =>
 ifGV x10 (
 (qc id_spec_l2Local [(frz H (strip (c1.getD 1 .nilp)))]).bind fun x15 =>
 ifGV x15 (
 (vLenSV (strip (c1.getD 2 .nilp))).bind fun x20 =>
 (vBinV (.int .i64) .leq x20 (.int .i64 40)).bind fun x21 =>
 ifGV x21 (
 (qc id_spec_l2Domain [(frz H (strip (c1.getD 2 .nilp)))]).bind fun x26 =>
 some (x26, H)) (
 some ((.bool false), H))) (
 some ((.bool false), H))) (
 some ((.bool false), H))) (
 some ((.bool false), H)) := (callV_eq vb _ _ _ rfl).trans (by kernel_rfl)
theorem spec_l2Name_eq (a0 : V) (H : VH) : cv id_spec_l2Name [a0] H =
 (qc id_spec_TextValid [(frz H a0)]).bind fun x2 =>
 ifGV x2 (
 (vLenSV (strip a0)).bind fun x5 =>
 (vBinV (.int .i64) .leq x5 (.int .i64 40)).bind fun x6 =>
 some (x6, H)) (
 some ((.bool false), H)) := (callV_eq vb _ _ _ rfl).trans (by kernel_rfl)
noncomputable def spec_TextValid_l2 : List V -> VH -> Option (Option Nat × List V × VH) := roundV (vb.ctx cv lpW') (vb.b.ann 70) (vb.takes 70) ⟨⟨[0, 3], [], []⟩, [(.exit 0, ⟨[0], [], []⟩), (.ret, ⟨[2], [], []⟩)]⟩ (loopIn Tryz.f70 2)
theorem spec_TextValid_l2_eq (v0 v1 : V) (H : VH) : spec_TextValid_l2 [v0, v1] H =
 (id (
 (vLenSV v0).bind fun x4 =>
 (vBinV (.int .i64) .lss v1 x4).bind fun x5 =>
 ifGV x5 (
 (vBinV (.int .i64) .leq (strip v1) (.int .i64 200)).bind fun x8 =>
 ifVV x8 (
 some (0, [(strip v0), (strip (strip v1))], H)) (
 some (1, [(strip v0)], H))) (
 some (1, [(strip v0)], H)) : Option (Nat × List V × VH))).bind fun r11 =>
 inN r11.1 [
 gotV 2 r11.2.1 fun v12 =>
 (id (
 (vIndexSV (v12 0) (v12 1)).bind fun x15 =>
 (vBinV (.int .u8) .lss x15 (.int .u8 32)).bind fun x16 =>
 ifGV x16 (
 some (0, [(.bool false)], r11.2.2)) (
 (vIndexSV (strip (v12 0)) (strip (v12 1))).bind fun x22 =>
 (vBinV (.int .u8) .gtr x22 (.int .u8 126)).bind fun x23 =>
 ifVV x23 (
 some (0, [(.bool false)], r11.2.2)) (
 some (1, [(strip (strip (v12 0))), (strip (strip (v12 1)))], r11.2.2))) : Option (Nat × List V × VH))).bind fun r26 =>
 inN r26.1 [
 gotV 1 r26.2.1 fun v27 =>
 some (some 1, [(v27 0)], r26.2.2),
 gotV 2 r26.2.1 fun v28 =>
 (vBinV (.int .i64) .add (v28 1) (.int .i64 1)).bind fun x30 =>
 some (none, [(v28 0), x30], r26.2.2)],
 gotV 1 r11.2.1 fun v32 =>
 some (some 0, [(v32 0)], r11.2.2)] := by kernel_rfl
theorem spec_TextValid_eq (a0 : V) (H : VH) : cv id_spec_TextValid [a0] H =
 (lpW' spec_TextValid_l2 [a0, (.int .i64 0)] H).bind fun r33 =>
 inN r33.1 [
 gotV 1 r33.2.1 fun v34 =>
 (vLenSV (v34 0)).bind fun x36 =>
 (vBinV (.int .i64) .leq x36 (.int .i64 200)).bind fun x37 =>
 some (x37, r33.2.2),
 gotV 1 r33.2.1 fun v39 =>
 some ((v39 0), r33.2.2)] := (callV_eq vb _ _ _ rfl).trans (by kernel_rfl)
noncomputable def spec_l2Local_l3 : List V -> VH -> Option (Option Nat × List V × VH) := roundV (vb.ctx cv lpW') (vb.b.ann 217) (vb.takes 217) ⟨⟨[0, 3, 4], [], []⟩, [(.exit 0, ⟨[0], [], []⟩), (.ret, ⟨[2], [], []⟩)]⟩ (loopIn Tryz.f217 3)
theorem spec_l2Local_l3_eq (v0 v1 v2 : V) (H : VH) : spec_l2Local_l3 [v0, v1, v2] H =
 (vLenVV (strip v1)).bind fun x7 =>
 (vBinV (.int .i64) .lss v2 x7).bind fun x8 =>
 ifVV x8 (
 (vIdxV 1 (strip v1) (strip v2)).bind fun x11 =>
 (ldO globB false false 1 x11 H).bind fun r13 =>
 (qc id_spec_AtomValid [(frz r13.2 r13.1)]).bind fun x14 =>
 (vUnV .not x14).bind fun x15 =>
 ifVV x15 (
 some (some 1, [(.bool false)], r13.2)) (
 (vBinV (.int .i64) .add (strip (strip v2)) (.int .i64 1)).bind fun x18 =>
 some (none, [v0, v1, x18], r13.2))) (
 some (some 0, [v0], H)) := by kernel_rfl
theorem spec_l2Local_eq (a0 : V) (H : VH) : cv id_spec_l2Local [a0] H =
 (pc id_spec_l2Parts [(frz H a0), (frz H (.int .u8 46))]).bind fun x2 =>
 (lpW' spec_l2Local_l3 [(strip a0), (strip x2), (.int .i64 0)] H).bind fun r20 =>
 inN r20.1 [
 gotV 1 r20.2.1 fun v21 =>
 (vLenSV (v21 0)).bind fun x23 =>
 (vBinV (.int .i64) .leq x23 (.int .i64 30)).bind fun x24 =>
 some (x24, r20.2.2),
 gotV 1 r20.2.1 fun v26 =>
 some ((v26 0), r20.2.2)] := (callV_eq vb _ _ _ rfl).trans (by kernel_rfl)
noncomputable def spec_l2Parts_l4 : List V -> VH -> Option (Option Nat × List V × VH) := roundV (vb.ctx cv lpW') (vb.b.ann 88) (vb.takes 88) ⟨⟨[0, 1, 5, 6, 7], [], []⟩, [(.exit 0, ⟨[0, 5, 6], [], []⟩)]⟩ (loopIn Tryz.f88 4)
theorem spec_l2Parts_l4_eq (v0 v1 v2 v3 v4 : V) (H : VH) : spec_l2Parts_l4 [v0, v1, v2, v3, v4] H =
 (vLenSV v0).bind fun x7 =>
 (vBinV (.int .i64) .lss v4 x7).bind fun x8 =>
 ifVV x8 (
 (id (
 (vIndexSV (strip v0) (strip v4)).bind fun x11 =>
 (vBinV (.int .u8) .eql x11 v1).bind fun x13 =>
 ifVV x13 (
 (vSliceSV (strip (strip v0)) (some v3) (some (strip (strip v4)))).bind fun x18 =>
 (vOneV x18).bind fun y20 =>
 (ownV v2).bind fun s22 =>
 (appV false 1 16 s22 (.sl true [[y20]])).bind fun x21 =>
 (vBinV (.int .i64) .add (strip (strip (strip v4))) (.int .i64 1)).bind fun x25 =>
 some (0, [(strip (strip (strip v0))), (strip v1), x21, x25, (strip (strip (strip (strip v4))))], H)) (
 some (0, [(strip (strip v0)), (strip v1), v2, v3, (strip (strip v4))], H)) : Option (Nat × List V × VH))).bind fun r27 =>
 inN r27.1 [
 gotV 5 r27.2.1 fun v28 =>
 (vBinV (.int .i64) .add (v28 4) (.int .i64 1)).bind fun x30 =>
 some (none, [(v28 0), (v28 1), (v28 2), (v28 3), x30], r27.2.2)]) (
 some (some 0, [(strip v0), v2, v3], H)) := by kernel_rfl
theorem spec_l2Parts_eq (a0 a1 : V) (H : VH) : cv id_spec_l2Parts [a0, a1] H =
 (lpW' spec_l2Parts_l4 [a0, a1, (.sl true []), (.int .i64 0), (.int .i64 0)] H).bind fun r32 =>
 inN r32.1 [
 gotV 3 r32.2.1 fun v33 =>
 (vSliceSV (v33 0) (some (v33 2)) none).bind fun x37 =>
 (vOneV x37).bind fun y39 =>
 (ownV (v33 1)).bind fun s41 =>
 (appV false 1 16 s41 (.sl true [[y39]])).bind fun x40 =>
 some (x40, r32.2.2)] := (callV_eq vb _ _ _ rfl).trans (by kernel_rfl)
noncomputable def spec_AtomValid_l2 : List V -> VH -> Option (Option Nat × List V × VH) := roundV (vb.ctx cv lpW') (vb.b.ann 237) (vb.takes 237) ⟨⟨[0, 3], [], []⟩, [(.exit 0, ⟨[0], [], []⟩), (.ret, ⟨[2], [], []⟩)]⟩ (loopIn Tryz.f237 2)
theorem spec_AtomValid_l2_eq (v0 v1 : V) (H : VH) : spec_AtomValid_l2 [v0, v1] H =
 (id (
 (vLenSV v0).bind fun x4 =>
 (vBinV (.int .i64) .lss v1 x4).bind fun x5 =>
 ifGV x5 (
 (vBinV (.int .i64) .leq (strip v1) (.int .i64 40)).bind fun x8 =>
 ifVV x8 (
 some (0, [(strip v0), (strip (strip v1))], H)) (
 some (1, [(strip v0)], H))) (
 some (1, [(strip v0)], H)) : Option (Nat × List V × VH))).bind fun r11 =>
 inN r11.1 [
 gotV 2 r11.2.1 fun v12 =>
 (vIndexSV (v12 0) (v12 1)).bind fun x15 =>
 (qc id_spec_l1Atom [(frz r11.2.2 x15)]).bind fun x16 =>
 (vUnV .not x16).bind fun x17 =>
 ifVV x17 (
 some (some 1, [(.bool false)], r11.2.2)) (
 (vBinV (.int .i64) .add (strip (v12 1)) (.int .i64 1)).bind fun x20 =>
 some (none, [(strip (v12 0)), x20], r11.2.2)),
 gotV 1 r11.2.1 fun v22 =>
 some (some 0, [(v22 0)], r11.2.2)] := by kernel_rfl
theorem spec_AtomValid_eq (a0 : V) (H : VH) : cv id_spec_AtomValid [a0] H =
 (lpW' spec_AtomValid_l2 [a0, (.int .i64 0)] H).bind fun r23 =>
 inN r23.1 [
 gotV 1 r23.2.1 fun v24 =>
 (vLenSV (v24 0)).bind fun x26 =>
 (vBinV (.int .i64) .geq x26 (.int .i64 1)).bind fun x27 =>
 ifGV x27 (
 (vLenSV (strip (v24 0))).bind fun x30 =>
 (vBinV (.int .i64) .leq x30 (.int .i64 40)).bind fun x31 =>
 some (x31, r23.2.2)) (
 some ((.bool false), r23.2.2)),
 gotV 1 r23.2.1 fun v36 =>
 some ((v36 0), r23.2.2)] := (callV_eq vb _ _ _ rfl).trans (by kernel_rfl)
noncomputable def spec_l1Atom_l2 : List V -> VH -> Option (Option Nat × List V × VH) := roundV (vb.ctx cv lpW') (vb.b.ann 249) (vb.takes 249) ⟨⟨[0, 3], [], []⟩, [(.exit 0, ⟨[0], [], []⟩), (.ret, ⟨[2], [], []⟩)]⟩ (loopIn Tryz.f249 2)
theorem spec_l1Atom_l2_eq (v0 v1 : V) (H : VH) : spec_l1Atom_l2 [v0, v1] H =
 (vBinV (.int .i64) .lss v1 (.int .i64 19)).bind fun x3 =>
 ifVV x3 (
 (vIndexSV (.str [33, 35, 36, 37, 38, 39, 42, 43, 45, 47, 61, 63, 94, 95, 96, 123, 124, 125, 126]) (strip v1)).bind fun x6 =>
 (vBinV (.int .u8) .eql v0 x6).bind fun x7 =>
 ifVV x7 (
 some (some 1, [(.bool true)], H)) (
 (vBinV (.int .i64) .add (strip (strip v1)) (.int .i64 1)).bind fun x10 =>
 some (none, [(strip v0), x10], H))) (
 some (some 0, [v0], H)) := by kernel_rfl
theorem spec_l1Atom_eq (a0 : V) (H : VH) : cv id_spec_l1Atom [a0] H =
 (lpW' spec_l1Atom_l2 [a0, (.int .i64 0)] H).bind fun r12 =>
 inN r12.1 [
 gotV 1 r12.2.1 fun v13 =>
 (qc id_spec_l1Letter [(frz r12.2.2 (v13 0))]).bind fun x15 =>
 some (x15, r12.2.2),
 gotV 1 r12.2.1 fun v17 =>
 some ((v17 0), r12.2.2)] := (callV_eq vb _ _ _ rfl).trans (by kernel_rfl)
theorem spec_l1Letter_eq (a0 : V) (H : VH) : cv id_spec_l1Letter [a0] H =
 (vBinV (.int .u8) .geq a0 (.int .u8 97)).bind fun x2 =>
 ifGV x2 (
 (vBinV (.int .u8) .leq (strip a0) (.int .u8 122)).bind fun x5 =>
 ifGV x5 (
 some ((.bool true), H)) (
 (vBinV (.int .u8) .geq (strip (strip a0)) (.int .u8 65)).bind fun x13 =>
 ifGV x13 (
 (vBinV (.int .u8) .leq (strip (strip (strip a0))) (.int .u8 90)).bind fun x16 =>
 ifGV x16 (
 some ((.bool true), H)) (
 (vBinV (.int .u8) .geq (strip (strip (strip (strip a0)))) (.int .u8 48)).bind fun x23 =>
 ifGV x23 (
 (vBinV (.int .u8) .leq (strip (strip (strip (strip (strip a0))))) (.int .u8 57)).bind fun x26 =>
 some (x26, H)) (
 some ((.bool false), H)))) (
 (vBinV (.int .u8) .geq (strip (strip (strip a0))) (.int .u8 48)).bind fun x37 =>
 ifGV x37 (
 (vBinV (.int .u8) .leq (strip (strip (strip (strip a0)))) (.int .u8 57)).bind fun x40 =>
 some (x40, H)) (
 some ((.bool false), H))))) (
 (vBinV (.int .u8) .geq (strip a0) (.int .u8 65)).bind fun x50 =>
 ifGV x50 (
 (vBinV (.int .u8) .leq (strip (strip a0)) (.int .u8 90)).bind fun x53 =>
 ifGV x53 (
 some ((.bool true), H)) (
 (vBinV (.int .u8) .geq (strip (strip (strip a0))) (.int .u8 48)).bind fun x60 =>
 ifGV x60 (
 (vBinV (.int .u8) .leq (strip (strip (strip (strip a0)))) (.int .u8 57)).bind fun x63 =>
 some (x63, H)) (
 some ((.bool false), H)))) (
 (vBinV (.int .u8) .geq (strip (strip a0)) (.int .u8 48)).bind fun x74 =>
 ifGV x74 (
 (vBinV (.int .u8) .leq (strip (strip (strip a0))) (.int .u8 57)).bind fun x77 =>
 some (x77, H)) (
 some ((.bool false), H)))) := (callV_eq vb _ _ _ rfl).trans (by kernel_rfl)
noncomputable def spec_l2Domain_l9 : List V -> VH -> Option (Option Nat × List V × VH) := roundV (vb.ctx cv lpW') (vb.b.ann 42) (vb.takes 42) ⟨⟨[0, 3, 4, 5, 6], [], []⟩, [(.exit 2, ⟨[0, 3, 4], [], []⟩), (.ret, ⟨[2], [], []⟩)]⟩ (loopIn Tryz.f42 9)
noncomputable def spec_l2Domain_l3 : List V -> VH -> Option (Option Nat × List V × VH) := roundV (vb.ctx cv lpW') (vb.b.ann 42) (vb.takes 42) ⟨⟨[0, 3, 4], [], []⟩, [(.exit 0, ⟨[0], [], []⟩), (.ret, ⟨[2], [], []⟩)]⟩ (loopIn Tryz.f42 3)
theorem spec_l2Domain_l9_eq (v0 v1 v2 v3 v4 : V) (H : VH) : spec_l2Domain_l9 [v0, v1, v2, v3, v4] H =
 (vLenSV v3).bind fun x43 =>
 (vBinV (.int .i64) .lss v4 x43).bind fun x44 =>
 ifVV x44 (
 (id (
 (vIndexSV (strip v3) (strip v4)).bind fun x47 =>
 (qc id_spec_l1Letter [(frz H x47)]).bind fun x48 =>
 (vUnV .not x48).bind fun x49 =>
 ifGV x49 (
 (vIndexSV (strip (strip v3)) (strip (strip v4))).bind fun x53 =>
 (vBinV (.int .u8) .neq x53 (.int .u8 45)).bind fun x54 =>
 ifGV x54 (
 some (0, [(.bool false)], H)) (
 (vIndexSV (strip (strip (strip v3))) (strip (strip (strip v4)))).bind fun x61 =>
 (vBinV (.int .u8) .geq x61 (.int .u8 65)).bind fun x62 =>
 ifGV x62 (
 (vIndexSV (strip (strip (strip (strip v3)))) (strip (strip (strip (strip v4))))).bind fun x66 =>
 (vBinV (.int .u8) .leq x66 (.int .u8 90)).bind fun x67 =>
 ifVV x67 (
 some (0, [(.bool false)], H)) (
 some (1, [v0, v1, v2, (strip (strip (strip (strip (strip v3))))), (strip (strip (strip (strip (strip v4)))))], H))) (
 some (1, [v0, v1, v2, (strip (strip (strip (strip v3)))), (strip (strip (strip (strip v4))))], H)))) (
 (vIndexSV (strip (strip v3)) (strip (strip v4))).bind fun x77 =>
 (vBinV (.int .u8) .geq x77 (.int .u8 65)).bind fun x78 =>
 ifGV x78 (
 (vIndexSV (strip (strip (strip v3))) (strip (strip (strip v4)))).bind fun x82 =>
 (vBinV (.int .u8) .leq x82 (.int .u8 90)).bind fun x83 =>
 ifVV x83 (
 some (0, [(.bool false)], H)) (
 some (1, [v0, v1, v2, (strip (strip (strip (strip v3)))), (strip (strip (strip (strip v4))))], H))) (
 some (1, [v0, v1, v2, (strip (strip (strip v3))), (strip (strip (strip v4)))], H))) : Option (Nat × List V × VH))).bind fun r89 =>
 inN r89.1 [
 gotV 1 r89.2.1 fun v90 =>
 some (some 1, [(v90 0)], r89.2.2),
 gotV 5 r89.2.1 fun v91 =>
 (vBinV (.int .i64) .add (v91 4) (.int .i64 1)).bind fun x93 =>
 some (none, [(v91 0), (v91 1), (v91 2), (v91 3), x93], r89.2.2)]) (
 some (some 0, [v0, v1, v2], H)) := by kernel_rfl
theorem spec_l2Domain_l3_eq (v0 v1 v2 : V) (H : VH) : spec_l2Domain_l3 [v0, v1, v2] H =
 (vLenVV (strip v1)).bind fun x7 =>
 (vBinV (.int .i64) .lss v2 x7).bind fun x8 =>
 ifVV x8 (
 (id (
 (vIdxV 1 (strip v1) (strip v2)).bind fun x11 =>
 (ldO globB false false 1 x11 H).bind fun r13 =>
 (id (
 (vBinV .str .eql r13.1 (.str [])).bind fun x16 =>
 ifGV x16 (
 some (0, [(.bool false)], r13.2)) (
 (vIndexSV (strip r13.1) (.int .i64 0)).bind fun x23 =>
 (vBinV (.int .u8) .eql x23 (.int .u8 45)).bind fun x24 =>
 ifGV x24 (
 some (0, [(.bool false)], r13.2)) (
 (vLenSV (strip (strip (strip r13.1)))).bind fun x31 =>
 (vBinV (.int .i64) .sub x31 (.int .i64 1)).bind fun x32 =>
 (vIndexSV (strip (strip r13.1)) x32).bind fun x33 =>
 (vBinV (.int .u8) .eql x33 (.int .u8 45)).bind fun x34 =>
 ifVV x34 (
 some (0, [(.bool false)], r13.2)) (
 some (1, [v0, v1, (strip (strip v2)), (strip (strip (strip (strip r13.1))))], r13.2)))) : Option (Nat × List V × VH))).bind fun r37 =>
 inN r37.1 [
 gotV 1 r37.2.1 fun v38 =>
 some (0, [(v38 0)], r37.2.2),
 gotV 4 r37.2.1 fun v39 =>
 (lpW' spec_l2Domain_l9 [(v39 0), (v39 1), (v39 2), (v39 3), (.int .i64 0)] r37.2.2).bind fun r95 =>
 inN r95.1 [
 gotV 3 r95.2.1 fun v96 =>
 some (1, [(v96 0), (v96 1), (v96 2)], r95.2.2),
 gotV 1 r95.2.1 fun v97 =>
 some (0, [(v97 0)], r95.2.2)]] : Option (Nat × List V × VH))).bind fun r98 =>
 inN r98.1 [
 gotV 1 r98.2.1 fun v99 =>
 some (some 1, [(v99 0)], r98.2.2),
 gotV 3 r98.2.1 fun v100 =>
 (vBinV (.int .i64) .add (v100 2) (.int .i64 1)).bind fun x102 =>
 some (none, [(v100 0), (v100 1), x102], r98.2.2)]) (
 some (some 0, [v0], H)) := by kernel_rfl
theorem spec_l2Domain_eq (a0 : V) (H : VH) : cv id_spec_l2Domain [a0] H =
 (pc id_spec_l2Parts [(frz H a0), (frz H (.int .u8 46))]).bind fun x2 =>
 (lpW' spec_l2Domain_l3 [(strip a0), (strip x2), (.int .i64 0)] H).bind fun r104 =>
 inN r104.1 [
 gotV 1 r104.2.1 fun v105 =>
 (vLenSV (v105 0)).bind fun x107 =>
 (vBinV (.int .i64) .leq x107 (.int .i64 40)).bind fun x108 =>
 some (x108, r104.2.2),
 gotV 1 r104.2.1 fun v110 =>
 some ((v110 0), r104.2.2)] := (callV_eq vb _ _ _ rfl).trans (by kernel_rfl)
noncomputable def laws_mwTexts_l4 : List V -> VH -> Option (Option Nat × List V × VH) := roundV (vb.ctx cv lpW') (vb.b.ann 14) (vb.takes 14) ⟨⟨[0, 1, 5], [], []⟩, [(.exit 0, ⟨[], [], []⟩), (.ret, ⟨[4], [], []⟩)]⟩ (loopIn Tryz.f14 4)
theorem laws_mwTexts_l4_eq (v0 v1 v2 : V) (H : VH) : laws_mwTexts_l4 [v0, v1, v2] H =
 (vLenVV (strip v0)).bind fun x10 =>
 (vBinV (.int .i64) .lss v2 x10).bind fun x11 =>
 ifVV x11 (
 (vIdxV 1 (strip v0) (strip v2)).bind fun x14 =>
 (ldO globB false false 1 x14 H).bind fun r16 =>
 (vIdxV 1 (strip v1) (strip (strip v2))).bind fun x19 =>
 (ldO globB false false 1 x19 r16.2).bind fun r21 =>
 (vBinV .str .neq r16.1 r21.1).bind fun x22 =>
 ifVV x22 (
 some (some 1, [(.bool false)], r21.2)) (
 (vBinV (.int .i64) .add (strip (strip (strip v2))) (.int .i64 1)).bind fun x25 =>
 some (none, [v0, v1, x25], r21.2))) (
 some (some 0, [], H)) := by kernel_rfl
theorem laws_mwTexts_eq (a0 a1 : V) (H : VH) : cv id_laws_mwTexts [a0, a1] H =
 (vLenVV (strip a0)).bind fun x2 =>
 (vLenVV (strip a1)).bind fun x4 =>
 (vBinV (.int .i64) .neq x2 x4).bind fun x5 =>
 ifVV x5 (
 some ((.bool false), H)) (
 (lpW' laws_mwTexts_l4 [a0, a1, (.int .i64 0)] H).bind fun r27 =>
 inN r27.1 [
 gotV 0 r27.2.1 fun v28 =>
 some ((.bool true), r27.2.2),
 gotV 1 r27.2.1 fun v30 =>
 some ((v30 0), r27.2.2)]) := (callV_eq vb _ _ _ rfl).trans (by kernel_rfl)
theorem impl_SayLine_eq (a0 a1 : V) (H : VH) : cv id_impl_SayLine [a0, a1] H =
 (aggNV 6 a0).bind fun c1 =>
 (qc id_impl_SessionValid [(frz H (.agg [(strip (c1.getD 0 .nilp)), (strip (c1.getD 1 .nilp)), (strip (c1.getD 2 .nilp)), (strip (c1.getD 3 .nilp)), (strip (c1.getD 4 .nilp)), (strip (c1.getD 5 .nilp))]))]).bind fun x6 =>
 (vUnV .not x6).bind fun x7 =>
 ifVV x7 (
 some ((.tup [(.agg [(.int .i64 0), (.str []), (.str []), (.sl true []), (.sl true []), (.sl true [])]), (.int .i64 0), (.bool false)]), H)) (
 (pc id_impl_copySession [(frz H (.agg [(strip (c1.getD 0 .nilp)), (strip (c1.getD 1 .nilp)), (strip (c1.getD 2 .nilp)), (strip (c1.getD 3 .nilp)), (strip (c1.getD 4 .nilp)), (strip (c1.getD 5 .nilp))]))]).bind fun x13 =>
 (aggNV 6 x13).bind fun c16 =>
 (stO (.ptr H.length 0) [(c16.getD 0 .nilp), (c16.getD 1 .nilp), (c16.getD 2 .nilp), (c16.getD 3 .nilp), (c16.getD 4 .nilp), (c16.getD 5 .nilp)] (H ++ [[(.int .i64 0), (.str []), (.str []), (.sl true []), (.sl true []), (.sl true [])]])).bind fun H17 =>
 (cv id_impl_Session_say [(.ptr H.length 0), (strip a1)] H17).bind fun r20 =>
 (vExtV r20.1 0).bind fun x22 =>
 (vExtV r20.1 1).bind fun x23 =>
 (vUnV .not (strip x23)).bind fun x27 =>
 ifVV x27 (
 some ((.tup [(.agg [(.int .i64 0), (.str []), (.str []), (.sl true []), (.sl true []), (.sl true [])]), (.int .i64 0), (.bool false)]), r20.2)) (
 (ldO globB true true 6 (.ptr H.length 0) r20.2).bind fun r33 =>
 (aggNV 6 r33.1).bind fun c36 =>
 some ((.tup [(.agg [(c36.getD 0 .nilp), (c36.getD 1 .nilp), (c36.getD 2 .nilp), (c36.getD 3 .nilp), (c36.getD 4 .nilp), (c36.getD 5 .nilp)]), (strip x22), (.bool true)]), r33.2))) := (callV_eq vb _ _ _ rfl).trans (by kernel_rfl)
theorem impl_SessionValid_eq (a0 : V) (H : VH) : cv id_impl_SessionValid [a0] H =
 (aggNV 6 a0).bind fun c1 =>
 (id (
 (vBinV (.int .i64) .lss (strip (c1.getD 0 .nilp)) (.int .i64 0)).bind fun x5 =>
 ifGV x5 (
 some (0, [(.bool false)], H)) (
 (vBinV (.int .i64) .gtr (strip (c1.getD 0 .nilp)) (.int .i64 5)).bind fun x17 =>
 ifGV x17 (
 some (0, [(.bool false)], H)) (
 (qc id_impl_draftValid [(frz H (.agg [(strip (c1.getD 2 .nilp)), (strip (c1.getD 3 .nilp)), (strip (c1.getD 4 .nilp))])), (frz H (.int .i64 0)), (frz H (.int .i64 31))]).bind fun x28 =>
 (vUnV .not x28).bind fun x29 =>
 ifGV x29 (
 some (0, [(.bool false)], H)) (
 (qc id_impl_mailsValid [(frz H (strip (c1.getD 5 .nilp))), (frz H (.int .i64 5))]).bind fun x38 =>
 (vUnV .not x38).bind fun x39 =>
 ifGV x39 (
 some (0, [(.bool false)], H)) (
 (vBinV .str .neq (strip (c1.getD 1 .nilp)) (.str [])).bind fun x46 =>
 ifGV x46 (
 (qc id_impl_isDomain [(frz H (strip (c1.getD 1 .nilp)))]).bind fun x50 =>
 (vUnV .not x50).bind fun x51 =>
 ifVV x51 (
 some (0, [(.bool false)], H)) (
 some (1, [(c1.getD 0 .nilp), (c1.getD 1 .nilp), (c1.getD 2 .nilp), (c1.getD 3 .nilp), (c1.getD 4 .nilp), (c1.getD 5 .nilp)], H))) (
 some (1, [(c1.getD 0 .nilp), (c1.getD 1 .nilp), (c1.getD 2 .nilp), (c1.getD 3 .nilp), (c1.getD 4 .nilp), (c1.getD 5 .nilp)], H)))))) : Option (Nat × List V × VH))).bind fun r57 =>
 inN r57.1 [
 gotV 1 r57.2.1 fun v58 =>
 some ((v58 0), r57.2.2),
 gotV 6 r57.2.1 fun v59 =>
 (id (
 (vBinV (.int .i64) .neq (strip (v59 0)) (.int .i64 5)).bind fun x62 =>
 ifGV x62 (
 (vBinV .str .eql (strip (v59 1)) (.str [])).bind fun x66 =>
 (vBinV (.int .i64) .eql (strip (v59 0)) (.int .i64 0)).bind fun x69 =>
 (vBinV .bool .neq x66 x69).bind fun x70 =>
 ifVV x70 (
 some (0, [(.bool false)], r57.2.2)) (
 (vLenVV (strip (v59 3))).bind fun x77 =>
 (vBinV (.int .i64) .gtr x77 (.int .i64 0)).bind fun x78 =>
 (vBinV (.int .i64) .eql (strip (v59 0)) (.int .i64 3)).bind fun x81 =>
 ifGV x81 (
 (vBinV .bool .neq x78 (.bool true)).bind fun x84 =>
 ifVV x84 (
 some (0, [(.bool false)], r57.2.2)) (
 (vLenVV (strip (v59 4))).bind fun x90 =>
 (vBinV (.int .i64) .gtr x90 (.int .i64 0)).bind fun x91 =>
 ifGV x91 (
 (vBinV (.int .i64) .neq (strip (v59 0)) (.int .i64 4)).bind fun x95 =>
 ifVV x95 (
 some (0, [(.bool false)], r57.2.2)) (
 some (1, [(v59 0), (v59 1), (v59 2), (v59 3), (v59 4), (v59 5)], r57.2.2))) (
 some (1, [(v59 0), (v59 1), (v59 2), (v59 3), (v59 4), (v59 5)], r57.2.2)))) (
 (vBinV (.int .i64) .eql (strip (v59 0)) (.int .i64 4)).bind fun x103 =>
 (vBinV .bool .neq x78 x103).bind fun x105 =>
 ifVV x105 (
 some (0, [(.bool false)], r57.2.2)) (
 (vLenVV (strip (v59 4))).bind fun x111 =>
 (vBinV (.int .i64) .gtr x111 (.int .i64 0)).bind fun x112 =>
 ifGV x112 (
 (vBinV (.int .i64) .neq (strip (v59 0)) (.int .i64 4)).bind fun x116 =>
 ifVV x116 (
 some (0, [(.bool false)], r57.2.2)) (
 some (1, [(v59 0), (v59 1), (v59 2), (v59 3), (v59 4), (v59 5)], r57.2.2))) (
 some (1, [(v59 0), (v59 1), (v59 2), (v59 3), (v59 4), (v59 5)], r57.2.2)))))) (
 (vLenVV (strip (v59 3))).bind fun x127 =>
 (vBinV (.int .i64) .gtr x127 (.int .i64 0)).bind fun x128 =>
 (vBinV (.int .i64) .eql (strip (v59 0)) (.int .i64 3)).bind fun x131 =>
 ifGV x131 (
 (vBinV .bool .neq x128 (.bool true)).bind fun x134 =>
 ifVV x134 (
 some (0, [(.bool false)], r57.2.2)) (
 (vLenVV (strip (v59 4))).bind fun x140 =>
 (vBinV (.int .i64) .gtr x140 (.int .i64 0)).bind fun x141 =>
 ifGV x141 (
 (vBinV (.int .i64) .neq (strip (v59 0)) (.int .i64 4)).bind fun x145 =>
 ifVV x145 (
 some (0, [(.bool false)], r57.2.2)) (
 some (1, [(v59 0), (v59 1), (v59 2), (v59 3), (v59 4), (v59 5)], r57.2.2))) (
 some (1, [(v59 0), (v59 1), (v59 2), (v59 3), (v59 4), (v59 5)], r57.2.2)))) (
 (vBinV (.int .i64) .eql (strip (v59 0)) (.int .i64 4)).bind fun x153 =>
 (vBinV .bool .neq x128 x153).bind fun x155 =>
 ifVV x155 (
 some (0, [(.bool false)], r57.2.2)) (
 (vLenVV (strip (v59 4))).bind fun x161 =>
 (vBinV (.int .i64) .gtr x161 (.int .i64 0)).bind fun x162 =>
 ifGV x162 (
 (vBinV (.int .i64) .neq (strip (v59 0)) (.int .i64 4)).bind fun x166 =>
 ifVV x166 (
 some (0, [(.bool false)], r57.2.2)) (
 some (1, [(v59 0), (v59 1), (v59 2), (v59 3), (v59 4), (v59 5)], r57.2.2))) (
 some (1, [(v59 0), (v59 1), (v59 2), (v59 3), (v59 4), (v59 5)], r57.2.2))))) : Option (Nat × List V × VH))).bind fun r172 =>
 inN r172.1 [
 gotV 1 r172.2.1 fun v173 =>
 some ((v173 0), r172.2.2),
 gotV 6 r172.2.1 fun v174 =>
 (vBinV .str .eql (strip (v174 2)) (.str [])).bind fun x178 =>
 ifGV x178 (
 some ((.bool true), r172.2.2)) (
 (vBinV (.int .i64) .eql (strip (v174 0)) (.int .i64 2)).bind fun x188 =>
 ifGV x188 (
 some ((.bool true), r172.2.2)) (
 (vBinV (.int .i64) .eql (strip (v174 0)) (.int .i64 3)).bind fun x197 =>
 ifGV x197 (
 some ((.bool true), r172.2.2)) (
 (vBinV (.int .i64) .eql (strip (v174 0)) (.int .i64 4)).bind fun x204 =>
 some (x204, r172.2.2))))]] := (callV_eq vb _ _ _ rfl).trans (by kernel_rfl)
theorem impl_mailsValid_eq (a0 a1 : V) (H : VH) : cv id_impl_mailsValid [a0, a1] H =
 (vLenVV (strip a0)).bind fun x2 =>
 (vBinV (.int .i64) .leq x2 a1).bind fun x4 =>
 ifGV x4 (
 (qc id_slices_ContainsFunc___impl_Mail_impl_Mail_ [(frz H (strip a0)), (frz H (.fn id_impl_mailsValid_1 []))]).bind fun x7 =>
 (vUnV .not x7).bind fun x8 =>
 some (x8, H)) (
 some ((.bool false), H)) := (callV_eq vb _ _ _ rfl).trans (by kernel_rfl)
theorem slices_ContainsFunc___impl_Mail_impl_Mail__eq (a0 a1 : V) (H : VH) : cv id_slices_ContainsFunc___impl_Mail_impl_Mail_ [a0, a1] H =
 (qc id_slices_IndexFunc___impl_Mail_impl_Mail_ [(frz H (strip a0)), (frz H a1)]).bind fun x3 =>
 (vBinV (.int .i64) .geq x3 (.int .i64 0)).bind fun x4 =>
 some (x4, H) := (callV_eq vb _ _ _ rfl).trans (by kernel_rfl)
noncomputable def slices_IndexFunc___impl_Mail_impl_Mail__l2 : List V -> VH -> Option (Option Nat × List V × VH) := roundV (vb.ctx cv lpW') (vb.b.ann 173) (vb.takes 173) ⟨⟨[0, 1, 7, 8], [], []⟩, [(.exit 0, ⟨[], [], []⟩), (.ret, ⟨[4], [], []⟩)]⟩ (loopIn Tryz.f173 2)
theorem slices_IndexFunc___impl_Mail_impl_Mail__l2_eq (v0 v1 v2 v3 : V) (H : VH) : slices_IndexFunc___impl_Mail_impl_Mail__l2 [v0, v1, v2, v3] H =
 (vBinV (.int .i64) .lss v3 v2).bind fun x4 =>
 ifVV x4 (
 (vIdxV 3 (strip v0) v3).bind fun x10 =>
 (ldO globB false true 3 x10 H).bind fun r12 =>
 (calleeV v1).bind fun p14 =>
 (qc p14.1 ((([r12.1] : List V) ++ p14.2).map (frz r12.2))).bind fun x13 =>
 ifVV x13 (
 some (some 1, [(strip v3)], r12.2)) (
 (vBinV (.int .i64) .add (strip v3) (.int .i64 1)).bind fun x17 =>
 some (none, [v0, (strip v1), v2, x17], r12.2))) (
 some (some 0, [], H)) := by kernel_rfl
theorem slices_IndexFunc___impl_Mail_impl_Mail__eq (a0 a1 : V) (H : VH) : cv id_slices_IndexFunc___impl_Mail_impl_Mail_ [a0, a1] H =
 (vLenVV (strip a0)).bind fun x2 =>
 (lpW' slices_IndexFunc___impl_Mail_impl_Mail__l2 [a0, a1, x2, (.int .i64 0)] H).bind fun r19 =>
 inN r19.1 [
 gotV 0 r19.2.1 fun v20 =>
 some ((.int .i64 (-1)), r19.2.2),
 gotV 1 r19.2.1 fun v22 =>
 some ((v22 0), r19.2.2)] := (callV_eq vb _ _ _ rfl).trans (by kernel_rfl)
theorem impl_mailsValid_1_eq (a0 : V) (H : VH) : cv id_impl_mailsValid_1 [a0] H =
 (aggNV 3 a0).bind fun c1 =>
 (qc id_impl_MailValid [(frz H (.agg [(strip (c1.getD 0 .nilp)), (strip (c1.getD 1 .nilp)), (strip (c1.getD 2 .nilp))]))]).bind fun x4 =>
 (vUnV .not x4).bind fun x5 =>
 some (x5, H) := (callV_eq vb _ _ _ rfl).trans (by kernel_rfl)
theorem impl_copySession_eq (a0 : V) (H : VH) : cv id_impl_copySession [a0] H =
 (aggNV 6 a0).bind fun c1 =>
 (pc id_impl_copyMail [(frz H (.agg [(strip (c1.getD 2 .nilp)), (strip (c1.getD 3 .nilp)), (strip (c1.getD 4 .nilp))]))]).bind fun x9 =>
 (pc id_impl_copyMails [(frz H (strip (c1.getD 5 .nilp)))]).bind fun x12 =>
 (vOneV (strip (c1.getD 0 .nilp))).bind fun y14 =>
 (vOneV (strip (c1.getD 1 .nilp))).bind fun y15 =>
 (aggNV 3 x9).bind fun c16 =>
 (vOneV x12).bind fun y17 =>
 some ((.agg [y14, y15, (c16.getD 0 .nilp), (c16.getD 1 .nilp), (c16.getD 2 .nilp), y17]), H) := (callV_eq vb _ _ _ rfl).trans (by kernel_rfl)
theorem impl_copyMail_eq (a0 : V) (H : VH) : cv id_impl_copyMail [a0] H =
 (aggNV 3 a0).bind fun c1 =>
 (pc id_slices_Clone___string_string_ [(frz H (strip (c1.getD 1 .nilp)))]).bind fun x7 =>
 (pc id_slices_Clone___string_string_ [(frz H (strip (c1.getD 2 .nilp)))]).bind fun x10 =>
 (vOneV (strip (c1.getD 0 .nilp))).bind fun y12 =>
 (vOneV x7).bind fun y13 =>
 (vOneV x10).bind fun y14 =>
 some ((.agg [y12, y13, y14]), H) := (callV_eq vb _ _ _ rfl).trans (by kernel_rfl)
theorem slices_Clone___string_string__eq (a0 : V) (H : VH) : cv id_slices_Clone___string_string_ [a0] H =
 (vNilEqV .eql (strip a0)).bind fun x2 =>
 ifVV x2 (
 some ((.sl true []), H)) (
 (appV false 1 16 [] a0).bind fun x6 =>
 some (x6, H)) := (callV_eq vb _ _ _ rfl).trans (by kernel_rfl)
noncomputable def impl_copyMails_l3 : List V -> VH -> Option (Option Nat × List V × VH) := roundV (vb.ctx cv lpW') (vb.b.ann 111) (vb.takes 111) ⟨⟨[3, 7, 8, 9], [], []⟩, [(.exit 0, ⟨[3], [], []⟩)]⟩ (loopIn Tryz.f111 3)
theorem impl_copyMails_l3_eq (v0 v1 v2 v3 : V) (H : VH) : impl_copyMails_l3 [v0, v1, v2, v3] H =
 (vBinV (.int .i64) .lss v3 v2).bind fun x6 =>
 ifVV x6 (
 (vIdxV 3 v1 v3).bind fun x7 =>
 (ldO globB false true 3 x7 H).bind fun r9 =>
 (aggNV 3 r9.1).bind fun c12 =>
 (pc id_impl_copyMail [(frz r9.2 (.agg [(strip (c12.getD 0 .nilp)), (strip (c12.getD 1 .nilp)), (strip (c12.getD 2 .nilp))]))]).bind fun x15 =>
 (aggNV 3 x15).bind fun c17 =>
 (ownV v0).bind fun s19 =>
 (appV false 3 64 s19 (.sl true [[(c17.getD 0 .nilp), (c17.getD 1 .nilp), (c17.getD 2 .nilp)]])).bind fun x18 =>
 (vBinV (.int .i64) .add v3 (.int .i64 1)).bind fun x21 =>
 some (none, [x18, v1, v2, x21], r9.2)) (
 some (some 0, [v0], H)) := by kernel_rfl
theorem impl_copyMails_eq (a0 : V) (H : VH) : cv id_impl_copyMails [a0] H =
 (vLenVV (strip a0)).bind fun x4 =>
 (lpW' impl_copyMails_l3 [(.sl true []), (strip a0), x4, (.int .i64 0)] H).bind fun r23 =>
 inN r23.1 [
 gotV 1 r23.2.1 fun v24 =>
 some ((v24 0), r23.2.2)] := (callV_eq vb _ _ _ rfl).trans (by kernel_rfl)
theorem impl_Session_say_eq (a0 a1 : V) (H : VH) : cv id_impl_Session_say [a0, a1] H =
 (id (
 (vNilV a0).bind fun x3 =>
 (vOffV x3 0).bind fun x4 =>
 (ldO globB false false 1 x4 H).bind fun r6 =>
 (vBinV (.int .i64) .eql r6.1 (.int .i64 5)).bind fun x7 =>
 ifGV x7 (
 some (0, [(.int .i64 0), (.bool false)], r6.2)) (
 (qc id_impl_TextValid [(frz r6.2 a1)]).bind fun x14 =>
 (vUnV .not x14).bind fun x15 =>
 ifVV x15 (
 some (0, [(.int .i64 0), (.bool false)], r6.2)) (
 (vNilV (strip a0)).bind fun x21 =>
 (vOffV x21 0).bind fun x22 =>
 (ldO globB false false 1 x22 r6.2).bind fun r24 =>
 (vBinV (.int .i64) .eql r24.1 (.int .i64 4)).bind fun x25 =>
 ifVV x25 (
 (cv id_impl_Session_sayData [(strip (strip (strip a0))), (strip (strip a1))] r24.2).bind fun r30 =>
 some (0, [r30.1, (.bool true)], r30.2)) (
 some (1, [(strip (strip a0)), (strip a1)], r24.2)))) : Option (Nat × List V × VH))).bind fun r33 =>
 inN r33.1 [
 gotV 2 r33.2.1 fun v34 =>
 some ((.tup [(v34 0), (v34 1)]), r33.2.2),
 gotV 2 r33.2.1 fun v35 =>
 (cv id_impl_Session_sayCommand [(strip (v35 0)), (strip (v35 1))] r33.2.2).bind fun r39 =>
 some ((.tup [r39.1, (.bool true)]), r39.2)] := (callV_eq vb _ _ _ rfl).trans (by kernel_rfl)
theorem impl_Session_sayData_eq (a0 a1 : V) (H : VH) : cv id_impl_Session_sayData [a0, a1] H =
 (vBinV .str .neq a1 (.str [46])).bind fun x2 =>
 ifVV x2 (
 (vNilV a0).bind fun x4 =>
 (vOffV x4 2).bind fun x5 =>
 (vOffV x5 2).bind fun x6 =>
 (ldO globB false false 1 x6 H).bind fun r8 =>
 (vLenVV r8.1).bind fun x9 =>
 (vBinV (.int .i64) .leq x9 (.int .i64 30)).bind fun x10 =>
 ifVV x10 (
 (vNilV (strip (strip a0))).bind fun x13 =>
 (vOffV x13 2).bind fun x14 =>
 (vOffV x14 2).bind fun x15 =>
 (ldO globB true false 1 x15 r8.2).bind fun r17 =>
 (qc id_strings_TrimPrefix [(frz r17.2 (strip a1)), (frz r17.2 (.str [46]))]).bind fun x19 =>
 (vOneV x19).bind fun y21 =>
 (ownV r17.1).bind fun s23 =>
 (appV false 1 16 s23 (.sl true [[y21]])).bind fun x22 =>
 (vNilV (strip a0)).bind fun x24 =>
 (vOffV x24 2).bind fun x25 =>
 (vOffV x25 2).bind fun x26 =>
 (vOneV x22).bind fun y28 =>
 (stO x26 [y28] r17.2).bind fun H29 =>
 some ((.int .i64 0), H29)) (
 some ((.int .i64 0), r8.2))) (
 (vNilV a0).bind fun x33 =>
 (vOffV x33 2).bind fun x34 =>
 (ldO globB true true 3 x34 H).bind fun r36 =>
 (aggNV 3 r36.1).bind fun c39 =>
 (vNilV (strip a0)).bind fun x43 =>
 (vOffV x43 0).bind fun x44 =>
 (stO x44 [(.int .i64 1)] r36.2).bind fun H46 =>
 (vNilV (strip (strip a0))).bind fun x47 =>
 (vOffV x47 2).bind fun x48 =>
 (stO x48 [(.str []), (.sl true []), (.sl true [])] H46).bind fun H50 =>
 (vLenVV (strip (c39.getD 2 .nilp))).bind fun x53 =>
 (vBinV (.int .i64) .gtr x53 (.int .i64 30)).bind fun x54 =>
 ifVV x54 (
 some ((.int .i64 552), H50)) (
 (vNilV (strip (strip (strip a0)))).bind fun x58 =>
 (vOffV x58 5).bind fun x59 =>
 (ldO globB false false 1 x59 H50).bind fun r61 =>
 (vLenVV r61.1).bind fun x62 =>
 (vBinV (.int .i64) .eql x62 (.int .i64 5)).bind fun x63 =>
 ifVV x63 (
 some ((.int .i64 452), r61.2)) (
 (vNilV (strip (strip (strip (strip (strip a0)))))).bind fun x68 =>
 (vOffV x68 5).bind fun x69 =>
 (ldO globB true false 1 x69 r61.2).bind fun r71 =>
 (ownV r71.1).bind fun s75 =>
 (appV false 3 64 s75 (.sl true [[(c39.getD 0 .nilp), (c39.getD 1 .nilp), (c39.getD 2 .nilp)]])).bind fun x74 =>
 (vNilV (strip (strip (strip (strip a0))))).bind fun x76 =>
 (vOffV x76 5).bind fun x77 =>
 (vOneV x74).bind fun y79 =>
 (stO x77 [y79] r71.2).bind fun H80 =>
 some ((.int .i64 250), H80)))) := (callV_eq vb _ _ _ rfl).trans (by kernel_rfl)
theorem strings_TrimPrefix_eq (a0 a1 : V) (H : VH) : cv id_strings_TrimPrefix [a0, a1] H =
 (qc id_internal_stringslite_TrimPrefix [(frz H a0), (frz H a1)]).bind fun x3 =>
 some (x3, H) := (callV_eq vb _ _ _ rfl).trans (by kernel_rfl)
theorem internal_stringslite_TrimPrefix_eq (a0 a1 : V) (H : VH) : cv id_internal_stringslite_TrimPrefix [a0, a1] H =
 (qc id_internal_stringslite_HasPrefix [(frz H a0), (frz H a1)]).bind fun x3 =>
 ifVV x3 (
 (vLenSV (strip a1)).bind fun x6 =>
 (vSliceSV (strip a0) (some x6) none).bind fun x7 =>
 some (x7, H)) (
 some ((strip a0), H)) := (callV_eq vb _ _ _ rfl).trans (by kernel_rfl)
theorem impl_Session_sayCommand_eq (a0 a1 : V) (H : VH) : cv id_impl_Session_sayCommand [a0, a1] H =
 (id (
 (qc id_impl_outside [(frz H (strip a1)), (frz H (.int .u8 32))]).bind fun x6 =>
 (vBinV (.int .i64) .geq x6 (.int .i64 0)).bind fun x9 =>
 ifVV x9 (
 (vSliceSV (strip (strip a1)) none (some (strip x6))).bind fun x12 =>
 (vBinV (.int .i64) .add (strip (strip x6)) (.int .i64 1)).bind fun x15 =>
 (vSliceSV (strip (strip (strip a1))) (some x15) none).bind fun x16 =>
 some (0, [a0, x12, x16, (.bool true)], H)) (
 some (0, [a0, a1, (.str []), (.bool false)], H)) : Option (Nat × List V × VH))).bind fun r20 =>
 inN r20.1 [
 gotV 4 r20.2.1 fun v21 =>
 (qc id_impl_LowerText [(frz r20.2.2 (v21 1))]).bind fun x23 =>
 (vBinV .str .eql x23 (.str [104, 101, 108, 111])).bind fun x26 =>
 ifVV x26 (
 (qc id_impl_LowerText [(frz r20.2.2 (v21 2))]).bind fun x29 =>
 (id (
 (vUnV .not (v21 3)).bind fun x32 =>
 ifGV x32 (
 some (0, [(.int .i64 501)], r20.2.2)) (
 (qc id_impl_isDomain [(frz r20.2.2 x29)]).bind fun x37 =>
 (vUnV .not x37).bind fun x38 =>
 ifVV x38 (
 some (0, [(.int .i64 501)], r20.2.2)) (
 some (1, [(v21 0), (strip x29)], r20.2.2))) : Option (Nat × List V × VH))).bind fun r41 =>
 inN r41.1 [
 gotV 1 r41.2.1 fun v42 =>
 some ((v42 0), r41.2.2),
 gotV 2 r41.2.1 fun v43 =>
 (vNilV (v43 0)).bind fun x49 =>
 (vOffV x49 1).bind fun x50 =>
 (vOneV (v43 1)).bind fun y52 =>
 (stO x50 [y52] r41.2.2).bind fun H53 =>
 (vNilV (strip (v43 0))).bind fun x54 =>
 (vOffV x54 0).bind fun x55 =>
 (stO x55 [(.int .i64 1)] H53).bind fun H57 =>
 (vNilV (strip (strip (v43 0)))).bind fun x58 =>
 (vOffV x58 2).bind fun x59 =>
 (stO x59 [(.str []), (.sl true []), (.sl true [])] H57).bind fun H61 =>
 some ((.int .i64 250), H61)]) (
 (vBinV .str .eql (strip x23) (.str [109, 97, 105, 108])).bind fun x64 =>
 ifVV x64 (
 (qc id_impl_pathIn [(frz r20.2.2 (v21 2)), (frz r20.2.2 (.str [70, 82, 79, 77, 58]))]).bind fun x67 =>
 (vExtV x67 0).bind fun x69 =>
 (vExtV x67 1).bind fun x70 =>
 (vUnV .not (strip x70)).bind fun x74 =>
 ifVV x74 (
 some ((.int .i64 501), r20.2.2)) (
 (vNilV (v21 0)).bind fun x78 =>
 (vOffV x78 0).bind fun x79 =>
 (ldO globB false false 1 x79 r20.2.2).bind fun r81 =>
 (vBinV (.int .i64) .neq r81.1 (.int .i64 1)).bind fun x82 =>
 ifVV x82 (
 some ((.int .i64 503), r81.2)) (
 (vOneV (strip x69)).bind fun y89 =>
 (vNilV (strip (v21 0))).bind fun x90 =>
 (vOffV x90 0).bind fun x91 =>
 (stO x91 [(.int .i64 2)] r81.2).bind fun H93 =>
 (vNilV (strip (strip (v21 0)))).bind fun x94 =>
 (vOffV x94 2).bind fun x95 =>
 (stO x95 [y89, (.sl true []), (.sl true [])] H93).bind fun H97 =>
 some ((.int .i64 250), H97)))) (
 (vBinV .str .eql (strip (strip x23)) (.str [114, 99, 112, 116])).bind fun x100 =>
 ifVV x100 (
 (qc id_impl_pathIn [(frz r20.2.2 (v21 2)), (frz r20.2.2 (.str [84, 79, 58]))]).bind fun x103 =>
 (vExtV x103 0).bind fun x105 =>
 (vExtV x103 1).bind fun x106 =>
 (id (
 (vUnV .not (strip x106)).bind fun x110 =>
 ifGV x110 (
 some (0, [(.int .i64 501)], r20.2.2)) (
 (vBinV .str .eql (strip x105) (.str [])).bind fun x116 =>
 ifVV x116 (
 some (0, [(.int .i64 501)], r20.2.2)) (
 (vNilV (v21 0)).bind fun x121 =>
 (vOffV x121 0).bind fun x122 =>
 (ldO globB false false 1 x122 r20.2.2).bind fun r124 =>
 (vBinV (.int .i64) .neq r124.1 (.int .i64 2)).bind fun x125 =>
 ifGV x125 (
 (vNilV (strip (v21 0))).bind fun x128 =>
 (vOffV x128 0).bind fun x129 =>
 (ldO globB false false 1 x129 r124.2).bind fun r131 =>
 (vBinV (.int .i64) .neq r131.1 (.int .i64 3)).bind fun x132 =>
 ifVV x132 (
 some (0, [(.int .i64 503)], r131.2)) (
 (vNilV (strip (strip (v21 0)))).bind fun x137 =>
 (vOffV x137 2).bind fun x138 =>
 (vOffV x138 1).bind fun x139 =>
 (ldO globB false false 1 x139 r131.2).bind fun r141 =>
 (vLenVV r141.1).bind fun x142 =>
 (vBinV (.int .i64) .eql x142 (.int .i64 10)).bind fun x143 =>
 ifVV x143 (
 some (0, [(.int .i64 452)], r141.2)) (
 some (1, [(strip (strip (strip (v21 0)))), (strip (strip x105))], r141.2)))) (
 (vNilV (strip (v21 0))).bind fun x149 =>
 (vOffV x149 2).bind fun x150 =>
 (vOffV x150 1).bind fun x151 =>
 (ldO globB false false 1 x151 r124.2).bind fun r153 =>
 (vLenVV r153.1).bind fun x154 =>
 (vBinV (.int .i64) .eql x154 (.int .i64 10)).bind fun x155 =>
 ifVV x155 (
 some (0, [(.int .i64 452)], r153.2)) (
 some (1, [(strip (strip (v21 0))), (strip (strip x105))], r153.2))))) : Option (Nat × List V × VH))).bind fun r158 =>
 inN r158.1 [
 gotV 1 r158.2.1 fun v159 =>
 some ((v159 0), r158.2.2),
 gotV 2 r158.2.1 fun v160 =>
 (vNilV (strip (strip (v160 0)))).bind fun x164 =>
 (vOffV x164 2).bind fun x165 =>
 (vOffV x165 1).bind fun x166 =>
 (ldO globB true false 1 x166 r158.2.2).bind fun r168 =>
 (vOneV (v160 1)).bind fun y171 =>
 (ownV r168.1).bind fun s173 =>
 (appV false 1 16 s173 (.sl true [[y171]])).bind fun x172 =>
 (vNilV (v160 0)).bind fun x174 =>
 (vOffV x174 0).bind fun x175 =>
 (stO x175 [(.int .i64 3)] r168.2).bind fun H177 =>
 (vNilV (strip (v160 0))).bind fun x178 =>
 (vOffV x178 2).bind fun x179 =>
 (vOffV x179 1).bind fun x180 =>
 (vOneV x172).bind fun y182 =>
 (stO x180 [y182] H177).bind fun H183 =>
 some ((.int .i64 250), H183)]) (
 ifVV (v21 3) (
 some ((.int .i64 500), r20.2.2)) (
 (vBinV .str .eql (strip (strip (strip x23))) (.str [100, 97, 116, 97])).bind fun x189 =>
 ifVV x189 (
 (vNilV (v21 0)).bind fun x192 =>
 (vOffV x192 0).bind fun x193 =>
 (ldO globB false false 1 x193 r20.2.2).bind fun r195 =>
 (vBinV (.int .i64) .neq r195.1 (.int .i64 3)).bind fun x196 =>
 ifVV x196 (
 some ((.int .i64 503), r195.2)) (
 (vNilV (strip (v21 0))).bind fun x199 =>
 (vOffV x199 0).bind fun x200 =>
 (stO x200 [(.int .i64 4)] r195.2).bind fun H202 =>
 some ((.int .i64 354), H202))) (
 (vBinV .str .eql (strip (strip (strip (strip x23)))) (.str [114, 115, 101, 116])).bind fun x205 =>
 ifVV x205 (
 (vNilV (v21 0)).bind fun x209 =>
 (vOffV x209 2).bind fun x210 =>
 (stO x210 [(.str []), (.sl true []), (.sl true [])] r20.2.2).bind fun H212 =>
 (vNilV (strip (v21 0))).bind fun x214 =>
 (vOffV x214 0).bind fun x215 =>
 (ldO globB false false 1 x215 H212).bind fun r217 =>
 (vBinV (.int .i64) .neq r217.1 (.int .i64 0)).bind fun x218 =>
 ifVV x218 (
 (vNilV (strip (strip (v21 0)))).bind fun x220 =>
 (vOffV x220 0).bind fun x221 =>
 (stO x221 [(.int .i64 1)] r217.2).bind fun H223 =>
 some ((.int .i64 250), H223)) (
 some ((.int .i64 250), r217.2))) (
 (vBinV .str .eql (strip (strip (strip (strip (strip x23))))) (.str [110, 111, 111, 112])).bind fun x227 =>
 ifVV x227 (
 some ((.int .i64 250), r20.2.2)) (
 (vBinV .str .eql (strip (strip (strip (strip (strip (strip x23)))))) (.str [113, 117, 105, 116])).bind fun x231 =>
 ifVV x231 (
 (vNilV (v21 0)).bind fun x236 =>
 (vOffV x236 0).bind fun x237 =>
 (stO x237 [(.int .i64 5)] r20.2.2).bind fun H239 =>
 (vNilV (strip (v21 0))).bind fun x240 =>
 (vOffV x240 2).bind fun x241 =>
 (stO x241 [(.str []), (.sl true []), (.sl true [])] H239).bind fun H243 =>
 some ((.int .i64 221), H243)) (
 some ((.int .i64 500), r20.2.2)))))))))] := (callV_eq vb _ _ _ rfl).trans (by kernel_rfl)
noncomputable def impl_outside_l2 : List V -> VH -> Option (Option Nat × List V × VH) := roundV (vb.ctx cv lpW') (vb.b.ann 169) (vb.takes 169) ⟨⟨[0, 1, 5], [], []⟩, [(.exit 0, ⟨[], [], []⟩), (.ret, ⟨[4], [], []⟩)]⟩ (loopIn Tryz.f169 2)
theorem impl_outside_l2_eq (v0 v1 v2 : V) (H : VH) : impl_outside_l2 [v0, v1, v2] H =
 (vLenSV v0).bind fun x4 =>
 (vBinV (.int .i64) .lss v2 x4).bind fun x5 =>
 ifVV x5 (
 (id (
 (vIndexSV (strip v0) (strip v2)).bind fun x8 =>
 (vBinV (.int .u8) .eql x8 (.int .u8 34)).bind fun x9 =>
 ifVV x9 (
 (vSliceSV (strip (strip v0)) (some (strip (strip v2))) none).bind fun x13 =>
 (qc id_impl_quoted [(frz H x13)]).bind fun x14 =>
 (vExtV x14 0).bind fun x16 =>
 (vExtV x14 1).bind fun x17 =>
 (vExtV x14 2).bind fun x18 =>
 (vUnV .not (strip x18)).bind fun x23 =>
 ifVV x23 (
 some (0, [(.int .i64 (-1))], H)) (
 (vBinV (.int .i64) .sub (strip x17) (.int .i64 1)).bind fun x27 =>
 (vBinV (.int .i64) .add (strip (strip (strip v2))) x27).bind fun x28 =>
 some (1, [(strip (strip (strip v0))), v1, x28], H))) (
 (vBinV (.int .u8) .eql x8 v1).bind fun x31 =>
 ifVV x31 (
 some (0, [(strip (strip v2))], H)) (
 some (1, [(strip (strip v0)), (strip v1), (strip (strip v2))], H))) : Option (Nat × List V × VH))).bind fun r35 =>
 inN r35.1 [
 gotV 1 r35.2.1 fun v36 =>
 some (some 1, [(v36 0)], r35.2.2),
 gotV 3 r35.2.1 fun v37 =>
 (vBinV (.int .i64) .add (v37 2) (.int .i64 1)).bind fun x39 =>
 some (none, [(v37 0), (v37 1), x39], r35.2.2)]) (
 some (some 0, [], H)) := by kernel_rfl
theorem impl_outside_eq (a0 a1 : V) (H : VH) : cv id_impl_outside [a0, a1] H =
 (lpW' impl_outside_l2 [a0, a1, (.int .i64 0)] H).bind fun r41 =>
 inN r41.1 [
 gotV 0 r41.2.1 fun v42 =>
 some ((.int .i64 (-1)), r41.2.2),
 gotV 1 r41.2.1 fun v44 =>
 some ((v44 0), r41.2.2)] := (callV_eq vb _ _ _ rfl).trans (by kernel_rfl)
noncomputable def impl_quoted_l3 : List V -> VH -> Option (Option Nat × List V × VH) := roundV (vb.ctx cv lpW') (vb.b.ann 208) (vb.takes 208) ⟨⟨[0, 5, 6], [], []⟩, [(.exit 0, ⟨[], [], []⟩), (.ret, ⟨[2, 3, 4], [], []⟩)]⟩ (loopIn Tryz.f208 3)
theorem impl_quoted_l3_eq (v0 v1 v2 : V) (H : VH) : impl_quoted_l3 [v0, v1, v2] H =
 (vLenSV v0).bind fun x8 =>
 (vBinV (.int .i64) .lss v2 x8).bind fun x9 =>
 ifVV x9 (
 (id (
 (id (
 (vIndexSV (strip v0) (strip v2)).bind fun x12 =>
 (vBinV (.int .u8) .eql x12 (.int .u8 34)).bind fun x13 =>
 ifVV x13 (
 (b2sV (strip v1) H).bind fun x16 =>
 (vBinV (.int .i64) .add (strip (strip v2)) (.int .i64 1)).bind fun x18 =>
 some (0, [x16, x18, (.bool true)], H)) (
 (vIndexSV (strip (strip v0)) (strip (strip v2))).bind fun x24 =>
 (vBinV (.int .u8) .eql x24 (.int .u8 92)).bind fun x25 =>
 ifVV x25 (
 (vBinV (.int .i64) .add (strip (strip (strip v2))) (.int .i64 1)).bind fun x28 =>
 (vLenSV (strip (strip (strip v0)))).bind fun x32 =>
 (vBinV (.int .i64) .eql x28 x32).bind fun x33 =>
 ifVV x33 (
 some (0, [(.str []), (.int .i64 0), (.bool false)], H)) (
 some (1, [(strip (strip (strip (strip v0)))), v1, (strip x28)], H))) (
 some (1, [(strip (strip (strip v0))), v1, (strip (strip (strip v2)))], H))) : Option (Nat × List V × VH))).bind fun r37 =>
 inN r37.1 [
 gotV 3 r37.2.1 fun v38 =>
 some (0, [(v38 0), (v38 1), (v38 2)], r37.2.2),
 gotV 3 r37.2.1 fun v39 =>
 (vIndexSV (v39 0) (v39 2)).bind fun x43 =>
 (vOneV x43).bind fun y45 =>
 (ownV (v39 1)).bind fun s47 =>
 (appV false 1 1 s47 (.sl true [[y45]])).bind fun x46 =>
 some (1, [(strip (v39 0)), x46, (strip (v39 2))], r37.2.2)] : Option (Nat × List V × VH))).bind fun r49 =>
 inN r49.1 [
 gotV 3 r49.2.1 fun v50 =>
 some (some 1, [(v50 0), (v50 1), (v50 2)], r49.2.2),
 gotV 3 r49.2.1 fun v51 =>
 (vBinV (.int .i64) .add (v51 2) (.int .i64 1)).bind fun x53 =>
 some (none, [(v51 0), (v51 1), x53], r49.2.2)]) (
 some (some 0, [], H)) := by kernel_rfl
theorem impl_quoted_eq (a0 : V) (H : VH) : cv id_impl_quoted [a0] H =
 (lpW' impl_quoted_l3 [a0, (.sl true []), (.int .i64 1)] H).bind fun r55 =>
 inN r55.1 [
 gotV 0 r55.2.1 fun v56 =>
 some ((.tup [(.str []), (.int .i64 0), (.bool false)]), r55.2.2),
 gotV 3 r55.2.1 fun v60 =>
 some ((.tup [(v60 0), (v60 1), (v60 2)]), r55.2.2)] := (callV_eq vb _ _ _ rfl).trans (by kernel_rfl)
noncomputable def impl_LowerText_l3 : List V -> VH -> Option (Option Nat × List V × VH) := roundV (vb.ctx cv lpW') (vb.b.ann 83) (vb.takes 83) ⟨⟨[3, 8, 9, 10], [], []⟩, [(.exit 0, ⟨[3], [], []⟩)]⟩ (loopIn Tryz.f83 3)
theorem impl_LowerText_l3_eq (v0 v1 v2 v3 : V) (H : VH) : impl_LowerText_l3 [v0, v1, v2, v3] H =
 (vBinV (.int .i64) .lss v3 v2).bind fun x7 =>
 ifVV x7 (
 (vIdxV 1 v1 (strip v3)).bind fun x9 =>
 (ldO globB false false 1 x9 H).bind fun r11 =>
 (vBinV (.int .u8) .geq r11.1 (.int .u8 65)).bind fun x15 =>
 ifGV x15 (
 (vBinV (.int .u8) .leq (strip r11.1) (.int .u8 90)).bind fun x18 =>
 ifVV x18 (
 (vIdxV 1 (strip v0) v3).bind fun x22 =>
 (ldO globB false false 1 x22 r11.2).bind fun r24 =>
 (vBinV (.int .u8) .add r24.1 (.int .u8 32)).bind fun x25 =>
 (vIdxV 1 (strip v0) v3).bind fun x26 =>
 (vOneV x25).bind fun y28 =>
 (stO x26 [y28] r24.2).bind fun H29 =>
 (vBinV (.int .i64) .add (strip v3) (.int .i64 1)).bind fun x30 =>
 some (none, [v0, v1, v2, x30], H29)) (
 (vBinV (.int .i64) .add (strip v3) (.int .i64 1)).bind fun x32 =>
 some (none, [v0, v1, v2, x32], r11.2))) (
 (vBinV (.int .i64) .add (strip v3) (.int .i64 1)).bind fun x35 =>
 some (none, [v0, v1, v2, x35], r11.2))) (
 some (some 0, [v0], H)) := by kernel_rfl
theorem impl_LowerText_eq (a0 : V) (H : VH) : cv id_impl_LowerText [a0] H =
 (s2bV a0).bind fun x2 =>
 (vLenVV (.obs H.length 0 x2.length 1)).bind fun x5 =>
 (lpW' impl_LowerText_l3 [(.obs H.length 0 x2.length 1), (.obs H.length 0 x2.length 1), x5, (.int .i64 0)] (H ++ [x2])).bind fun r37 =>
 inN r37.1 [
 gotV 1 r37.2.1 fun v38 =>
 (b2sV (strip (v38 0)) r37.2.2).bind fun x40 =>
 some (x40, r37.2.2)] := (callV_eq vb _ _ _ rfl).trans (by kernel_rfl)
theorem impl_pathIn_eq (a0 a1 : V) (H : VH) : cv id_impl_pathIn [a0, a1] H =
 (id (
 (vLenSV a0).bind fun x3 =>
 (vLenSV a1).bind fun x5 =>
 (vBinV (.int .i64) .lss x3 x5).bind fun x6 =>
 ifGV x6 (
 some (0, [(.str []), (.bool false)], H)) (
 (vLenSV (strip a1)).bind fun x13 =>
 (vSliceSV (strip a0) none (some x13)).bind fun x14 =>
 (qc id_impl_SameText [(frz H x14), (frz H (strip (strip a1)))]).bind fun x16 =>
 (vUnV .not x16).bind fun x17 =>
 ifVV x17 (
 some (0, [(.str []), (.bool false)], H)) (
 some (1, [(strip (strip a0)), (strip (strip (strip a1)))], H))) : Option (Nat × List V × VH))).bind fun r21 =>
 inN r21.1 [
 gotV 2 r21.2.1 fun v22 =>
 some ((.tup [(v22 0), (v22 1)]), r21.2.2),
 gotV 2 r21.2.1 fun v23 =>
 (vLenSV (v23 1)).bind fun x26 =>
 (vSliceSV (v23 0) (some x26) none).bind fun x27 =>
 (qc id_strings_CutSuffix [(frz r21.2.2 x27), (frz r21.2.2 (.str [62]))]).bind fun x28 =>
 (vExtV x28 0).bind fun x30 =>
 (vExtV x28 1).bind fun x31 =>
 (qc id_strings_CutPrefix [(frz r21.2.2 (strip x30)), (frz r21.2.2 (.str [60]))]).bind fun x35 =>
 (vExtV x35 0).bind fun x37 =>
 (vExtV x35 1).bind fun x38 =>
 (id (
 (vUnV .not (strip x31)).bind fun x42 =>
 ifGV x42 (
 some (0, [(.str []), (.bool false)], r21.2.2)) (
 (vUnV .not (strip x38)).bind fun x48 =>
 ifVV x48 (
 some (0, [(.str []), (.bool false)], r21.2.2)) (
 some (1, [(strip x37)], r21.2.2))) : Option (Nat × List V × VH))).bind fun r52 =>
 inN r52.1 [
 gotV 2 r52.2.1 fun v53 =>
 some ((.tup [(v53 0), (v53 1)]), r52.2.2),
 gotV 1 r52.2.1 fun v54 =>
 (qc id_strings_Cut [(frz r52.2.2 (v54 0)), (frz r52.2.2 (.str [64]))]).bind fun x56 =>
 (vExtV x56 0).bind fun x58 =>
 (vExtV x56 1).bind fun x59 =>
 (vExtV x56 2).bind fun x60 =>
 (id (
 ifVV (strip x60) (
 (vBinV .str .add (strip x58) (.str [64])).bind fun x66 =>
 (qc id_impl_LowerText [(frz r52.2.2 (strip x59))]).bind fun x68 =>
 (vBinV .str .add x66 x68).bind fun x69 =>
 some (0, [x69], r52.2.2)) (
 some (0, [(strip (v54 0))], r52.2.2)) : Option (Nat × List V × VH))).bind fun r71 =>
 inN r71.1 [
 gotV 1 r71.2.1 fun v72 =>
 (qc id_impl_isFrom [(frz r71.2.2 (strip (v72 0)))]).bind fun x75 =>
 some ((.tup [(v72 0), x75]), r71.2.2)]]] := (callV_eq vb _ _ _ rfl).trans (by kernel_rfl)
theorem impl_SameText_eq (a0 a1 : V) (H : VH) : cv id_impl_SameText [a0, a1] H =
 (qc id_impl_LowerText [(frz H a0)]).bind fun x2 =>
 (qc id_impl_LowerText [(frz H a1)]).bind fun x4 =>
 (vBinV .str .eql x2 x4).bind fun x5 =>
 some (x5, H) := (callV_eq vb _ _ _ rfl).trans (by kernel_rfl)
theorem strings_CutSuffix_eq (a0 a1 : V) (H : VH) : cv id_strings_CutSuffix [a0, a1] H =
 (qc id_internal_stringslite_CutSuffix [(frz H a0), (frz H a1)]).bind fun x4 =>
 (vExtV x4 0).bind fun x5 =>
 (vExtV x4 1).bind fun x6 =>
 some ((.tup [(strip x5), (strip x6)]), H) := (callV_eq vb _ _ _ rfl).trans (by kernel_rfl)
theorem internal_stringslite_CutSuffix_eq (a0 a1 : V) (H : VH) : cv id_internal_stringslite_CutSuffix [a0, a1] H =
 (qc id_internal_stringslite_HasSuffix [(frz H a0), (frz H a1)]).bind fun x4 =>
 (vUnV .not x4).bind fun x5 =>
 ifVV x5 (
 some ((.tup [(strip a0), (.bool false)]), H)) (
 (vLenSV (strip (strip a0))).bind fun x11 =>
 (vLenSV (strip a1)).bind fun x13 =>
 (vBinV (.int .i64) .sub x11 x13).bind fun x14 =>
 (vSliceSV (strip a0) none (some x14)).bind fun x15 =>
 some ((.tup [x15, (.bool true)]), H)) := (callV_eq vb _ _ _ rfl).trans (by kernel_rfl)
theorem internal_stringslite_HasSuffix_eq (a0 a1 : V) (H : VH) : cv id_internal_stringslite_HasSuffix [a0, a1] H =
 (vLenSV a0).bind fun x2 =>
 (vLenSV a1).bind fun x4 =>
 (vBinV (.int .i64) .geq x2 x4).bind fun x5 =>
 ifGV x5 (
 (vLenSV (strip (strip a0))).bind fun x9 =>
 (vLenSV (strip a1)).bind fun x11 =>
 (vBinV (.int .i64) .sub x9 x11).bind fun x12 =>
 (vSliceSV (strip a0) (some x12) none).bind fun x13 =>
 (vBinV .str .eql x13 (strip (strip a1))).bind fun x15 =>
 some (x15, H)) (
 some ((.bool false), H)) := (callV_eq vb _ _ _ rfl).trans (by kernel_rfl)
theorem strings_CutPrefix_eq (a0 a1 : V) (H : VH) : cv id_strings_CutPrefix [a0, a1] H =
 (qc id_internal_stringslite_CutPrefix [(frz H a0), (frz H a1)]).bind fun x4 =>
 (vExtV x4 0).bind fun x5 =>
 (vExtV x4 1).bind fun x6 =>
 some ((.tup [(strip x5), (strip x6)]), H) := (callV_eq vb _ _ _ rfl).trans (by kernel_rfl)
theorem internal_stringslite_CutPrefix_eq (a0 a1 : V) (H : VH) : cv id_internal_stringslite_CutPrefix [a0, a1] H =
 (qc id_internal_stringslite_HasPrefix [(frz H a0), (frz H a1)]).bind fun x4 =>
 (vUnV .not x4).bind fun x5 =>
 ifVV x5 (
 some ((.tup [(strip a0), (.bool false)]), H)) (
 (vLenSV (strip a1)).bind fun x11 =>
 (vSliceSV (strip a0) (some x11) none).bind fun x12 =>
 some ((.tup [x12, (.bool true)]), H)) := (callV_eq vb _ _ _ rfl).trans (by kernel_rfl)
theorem impl_ReplyText_eq (a0 : V) (H : VH) : cv id_impl_ReplyText [a0] H =
 (vBinV (.int .i64) .eql a0 (.int .i64 221)).bind fun x2 =>
 ifVV x2 (
 some ((.str [50, 50, 49, 32, 98, 121, 101]), H)) (
 (vBinV (.int .i64) .eql a0 (.int .i64 250)).bind fun x5 =>
 ifVV x5 (
 some ((.str [50, 53, 48, 32, 111, 107]), H)) (
 (vBinV (.int .i64) .eql a0 (.int .i64 354)).bind fun x8 =>
 ifVV x8 (
 some ((.str [51, 53, 52, 32, 103, 111, 32, 111, 110]), H)) (
 (vBinV (.int .i64) .eql a0 (.int .i64 452)).bind fun x11 =>
 ifVV x11 (
 some ((.str [52, 53, 50, 32, 116, 111, 111, 32, 109, 97, 110, 121]), H)) (
 (vBinV (.int .i64) .eql a0 (.int .i64 500)).bind fun x14 =>
 ifVV x14 (
 some ((.str [53, 48, 48, 32, 119, 104, 97, 116]), H)) (
 (vBinV (.int .i64) .eql a0 (.int .i64 501)).bind fun x17 =>
 ifVV x17 (
 some ((.str [53, 48, 49, 32, 104, 111, 119]), H)) (
 (vBinV (.int .i64) .eql a0 (.int .i64 503)).bind fun x20 =>
 ifVV x20 (
 some ((.str [53, 48, 51, 32, 110, 111, 116, 32, 110, 111, 119]), H)) (
 (vBinV (.int .i64) .eql a0 (.int .i64 552)).bind fun x23 =>
 ifVV x23 (
 some ((.str [53, 53, 50, 32, 116, 111, 111, 32, 108, 111, 110, 103]), H)) (
 some ((.str []), H))))))))) := (callV_eq vb _ _ _ rfl).trans (by kernel_rfl)
noncomputable def impl_RunScript_l5 : List V -> VH -> Option (Option Nat × List V × VH) := roundV (vb.ctx cv lpW') (vb.b.ann 21) (vb.takes 21) ⟨⟨[3, 4, 12, 13, 14], [], []⟩, [(.exit 0, ⟨[4], [], []⟩), (.ret, ⟨[2], [], []⟩)]⟩ (loopIn Tryz.f21 5)
theorem impl_RunScript_l5_eq (v0 v1 v2 v3 v4 : V) (H : VH) : impl_RunScript_l5 [v0, v1, v2, v3, v4] H =
 (vBinV (.int .i64) .lss v4 v3).bind fun x15 =>
 ifVV x15 (
 (vIdxV 1 v2 (strip v4)).bind fun x17 =>
 (ldO globB false false 1 x17 H).bind fun r19 =>
 (vBinV .str .eql r19.1 (.str [])).bind fun x23 =>
 ifVV x23 (
 (vBinV (.int .i64) .add (strip v4) (.int .i64 1)).bind fun x24 =>
 some (none, [v0, v1, v2, v3, x24], r19.2)) (
 (id (
 (vBinV (.int .i64) .geq v4 (.int .i64 200)).bind fun x27 =>
 ifGV x27 (
 (vBinV .str .add v1 (.str [102, 117, 108, 108, 10])).bind fun x31 =>
 some (0, [x31], r19.2)) (
 (vLenSV v1).bind fun x34 =>
 (vBinV (.int .i64) .gtr x34 (.int .i64 40000)).bind fun x35 =>
 ifVV x35 (
 (vBinV .str .add (strip v1) (.str [102, 117, 108, 108, 10])).bind fun x38 =>
 some (0, [x38], r19.2)) (
 some (1, [v0, (strip v1), (strip r19.1), v2, v3, (strip v4)], r19.2))) : Option (Nat × List V × VH))).bind fun r40 =>
 inN r40.1 [
 gotV 1 r40.2.1 fun v41 =>
 some (some 1, [(v41 0)], r40.2.2),
 gotV 6 r40.2.1 fun v42 =>
 (cv id_impl_gate_line [(strip (v42 0)), (strip (v42 2))] r40.2.2).bind fun r46 =>
 (vBinV .str .add (v42 1) r46.1).bind fun x47 =>
 (vBinV (.int .i64) .add (v42 5) (.int .i64 1)).bind fun x49 =>
 some (none, [(v42 0), x47, (v42 3), (v42 4), x49], r46.2)])) (
 some (some 0, [v1], H)) := by kernel_rfl
theorem impl_RunScript_eq (a0 : V) (H : VH) : cv id_impl_RunScript [a0] H =
 (vLenSV a0).bind fun x2 =>
 (vBinV (.int .i64) .gtr x2 (.int .i64 20000)).bind fun x3 =>
 ifVV x3 (
 some ((.str [108, 111, 110, 103, 10]), H)) (
 (pc id_impl_newGate []).bind fun x5 =>
 (aggNV 14 x5).bind fun c8 =>
 (stO (.ptr H.length 0) [(c8.getD 0 .nilp), (c8.getD 1 .nilp), (c8.getD 2 .nilp), (c8.getD 3 .nilp), (c8.getD 4 .nilp), (c8.getD 5 .nilp), (c8.getD 6 .nilp), (c8.getD 7 .nilp), (c8.getD 8 .nilp), (c8.getD 9 .nilp), (c8.getD 10 .nilp), (c8.getD 11 .nilp), (c8.getD 12 .nilp), (c8.getD 13 .nilp)] (H ++ [[(.sl true []), (.int .i64 0), (.str []), (.str []), (.sl true []), (.sl true []), (.sl true []), (.int .i64 0), (.int .i64 0), (.int .i64 0), (.int .i64 0), (.int .i64 0), (.int .i64 0), (.int .i64 0)]])).bind fun H9 =>
 (pc id_strings_Split [(frz H9 (strip a0)), (frz H9 (.str [10]))]).bind fun x12 =>
 (vLenVV x12).bind fun x13 =>
 (lpW' impl_RunScript_l5 [(.ptr H.length 0), (.str []), x12, x13, (.int .i64 0)] H9).bind fun r51 =>
 inN r51.1 [
 gotV 1 r51.2.1 fun v52 =>
 some ((v52 0), r51.2.2),
 gotV 1 r51.2.1 fun v55 =>
 some ((v55 0), r51.2.2)]) := (callV_eq vb _ _ _ rfl).trans (by kernel_rfl)
theorem impl_newGate_eq (H : VH) : cv id_impl_newGate [] H =
 (pc id_impl_DateOf [(frz H (.int .i64 1767593289)), (frz H (.int .i64 60))]).bind fun x1 =>
 (vExtV x1 0).bind fun x3 =>
 (vExtV x1 1).bind fun x4 =>
 (aggNV 7 (strip x3)).bind fun c7 =>
 some ((.agg [(.sl true []), (.int .i64 0), (.str []), (.str []), (.sl true []), (.sl true []), (.sl true []), (strip (c7.getD 0 .nilp)), (strip (c7.getD 1 .nilp)), (strip (c7.getD 2 .nilp)), (strip (c7.getD 3 .nilp)), (strip (c7.getD 4 .nilp)), (strip (c7.getD 5 .nilp)), (strip (c7.getD 6 .nilp))]), H) := (callV_eq vb _ _ _ rfl).trans (by kernel_rfl)
noncomputable def impl_DateOf_l8 : List V -> VH -> Option (Option Nat × List V × VH) := roundV (vb.ctx cv lpW') (vb.b.ann 116) (vb.takes 116) ⟨⟨[7], [(4, (4, 0)), (9, (9, 0))], [(4, 7), (9, 7)]⟩, [(.exit 0, ⟨[7], [(4, (4, 0)), (9, (9, 0))], [(4, 7), (9, 7)]⟩)]⟩ (loopIn Tryz.f116 8)
theorem impl_DateOf_l8_eq (v0 v1 v2 v3 v4 v5 v6 v7 v8 v9 v10 v11 v12 v13 v14 : V) (H : VH) : impl_DateOf_l8 [v0, v1, v2, v3, v4, v5, v6, v7, v8, v9, v10, v11, v12, v13, v14] H =
 (id (
 (vBinV (.int .i64) .leq (strip v8) (.int .i64 2099)).bind fun x53 =>
 ifGV x53 (
 (qc id_impl_DaysOf [(frz H (strip v8)), (frz H (strip v9))]).bind fun x60 =>
 (vBinV (.int .i64) .geq v0 x60).bind fun x61 =>
 ifVV x61 (
 some (0, [(strip v0), v1, v2, v3, v4, v5, v6, v7, v8, v9, v10, v11, v12, v13, v14], H)) (
 some (1, [(strip v0), v1, v2, v3, v4, v5, v6, v7, v8, v9, v10, v11, v12, v13, v14], H))) (
 some (1, [v0, v1, v2, v3, v4, v5, v6, v7, v8, v9, v10, v11, v12, v13, v14], H)) : Option (Nat × List V × VH))).bind fun r64 =>
 inN r64.1 [
 gotV 15 r64.2.1 fun v65 =>
 (qc id_impl_DaysOf [(frz r64.2.2 (strip (v65 8))), (frz r64.2.2 (strip (v65 9)))]).bind fun x71 =>
 (vBinV (.int .i64) .sub (v65 0) x71).bind fun x72 =>
 (vBinV (.int .i64) .add (strip (v65 9)) (.int .i64 1)).bind fun x76 =>
 (vOneV x76).bind fun y79 =>
 (vBinV (.int .i64) .gtr (strip y79) (.int .i64 12)).bind fun x82 =>
 ifVV x82 (
 (vBinV (.int .i64) .add (strip (v65 8)) (.int .i64 1)).bind fun x85 =>
 (vOneV x85).bind fun y88 =>
 some (none, [x72, (v65 1), (v65 2), (v65 3), (v65 4), (v65 5), (v65 6), (v65 7), y88, (.int .i64 1), (v65 10), (v65 11), (v65 12), (v65 13), (v65 14)], r64.2.2)) (
 some (none, [x72, (v65 1), (v65 2), (v65 3), (v65 4), (v65 5), (v65 6), (v65 7), (v65 8), y79, (v65 10), (v65 11), (v65 12), (v65 13), (v65 14)], r64.2.2)),
 gotV 15 r64.2.1 fun v91 =>
 some (some 0, [(v91 0), (v91 1), (v91 2), (v91 3), (v91 4), (v91 5), (v91 6), (v91 7), (v91 8), (v91 9), (v91 10), (v91 11), (v91 12), (v91 13), (v91 14)], r64.2.2)] := by kernel_rfl
theorem impl_DateOf_eq (a0 a1 : V) (H : VH) : cv id_impl_DateOf [a0, a1] H =
 (id (
 (qc id_impl_between [(frz H a0), (frz H (.int .i64 0)), (frz H (.int .i64 4102444799))]).bind fun x3 =>
 (vUnV .not x3).bind fun x4 =>
 ifGV x4 (
 some (0, [(.bool false), (.int .i64 0), (.int .i64 0), (.int .i64 0), (.int .i64 0), (.int .i64 0), (.int .i64 0), (.int .i64 0)], H)) (
 (qc id_impl_isZone [(frz H a1)]).bind fun x11 =>
 (vUnV .not x11).bind fun x12 =>
 ifVV x12 (
 some (0, [(.bool false), (.int .i64 0), (.int .i64 0), (.int .i64 0), (.int .i64 0), (.int .i64 0), (.int .i64 0), (.int .i64 0)], H)) (
 some (1, [(strip a0), (strip a1), (.int .i64 0), (.int .i64 0), (.int .i64 0), (.int .i64 0), (.int .i64 0), (.int .i64 0), (.int .i64 0)], H))) : Option (Nat × List V × VH))).bind fun r17 =>
 inN r17.1 [
 gotV 8 r17.2.1 fun v18 =>
 some ((.tup [(.agg [(v18 1), (v18 2), (v18 3), (v18 4), (v18 5), (v18 6), (v18 7)]), (v18 0)]), r17.2.2),
 gotV 9 r17.2.1 fun v19 =>
 (vBinV (.int .i64) .mul (v19 1) (.int .i64 60)).bind fun x22 =>
 (vBinV (.int .i64) .add (v19 0) x22).bind fun x23 =>
 (vBinV (.int .i64) .lss x23 (.int .i64 0)).bind fun x26 =>
 ifVV x26 (
 some ((.tup [(.agg [(.int .i64 0), (.int .i64 0), (.int .i64 0), (.int .i64 0), (.int .i64 0), (.int .i64 0), (.int .i64 0)]), (.bool false)]), r17.2.2)) (
 (vBinV (.int .i64) .quo (strip x23) (.int .i64 86400)).bind fun x31 =>
 (vBinV (.int .i64) .rem (strip (strip x23)) (.int .i64 86400)).bind fun x33 =>
 (vBinV (.int .i64) .quo x33 (.int .i64 3600)).bind fun x37 =>
 (vBinV (.int .i64) .quo (strip x33) (.int .i64 60)).bind fun x39 =>
 (vBinV (.int .i64) .rem x39 (.int .i64 60)).bind fun x40 =>
 (vBinV (.int .i64) .rem (strip (strip x33)) (.int .i64 60)).bind fun x42 =>
 (vOneV x37).bind fun y45 =>
 (vOneV x40).bind fun y46 =>
 (vOneV x42).bind fun y47 =>
 (vOneV (strip (v19 1))).bind fun y48 =>
 (lpW' impl_DateOf_l8 [x31, (v19 2), (v19 3), (v19 4), (v19 5), (v19 6), (v19 7), (v19 8), (.int .i64 1970), (.int .i64 1), (.int .i64 0), y45, y46, y47, y48] r17.2.2).bind fun r92 =>
 inN r92.1 [
 gotV 15 r92.2.1 fun v93 =>
 (vBinV (.int .i64) .add (v93 0) (.int .i64 1)).bind fun x95 =>
 (vOneV x95).bind fun y98 =>
 (qc id_impl_DateValid [(frz r92.2.2 (.agg [(strip (v93 8)), (strip (v93 9)), (strip y98), (strip (v93 11)), (strip (v93 12)), (strip (v93 13)), (strip (v93 14))]))]).bind fun x100 =>
 (vUnV .not x100).bind fun x101 =>
 ifVV x101 (
 some ((.tup [(.agg [(.int .i64 0), (.int .i64 0), (.int .i64 0), (.int .i64 0), (.int .i64 0), (.int .i64 0), (.int .i64 0)]), (.bool false)]), r92.2.2)) (
 some ((.tup [(.agg [(strip (v93 8)), (strip (v93 9)), (strip y98), (strip (v93 11)), (strip (v93 12)), (strip (v93 13)), (strip (v93 14))]), (.bool true)]), r92.2.2))])] := (callV_eq vb _ _ _ rfl).trans (by kernel_rfl)
theorem impl_between_eq (a0 a1 a2 : V) (H : VH) : cv id_impl_between [a0, a1, a2] H =
 (vBinV (.int .i64) .geq a0 a1).bind fun x3 =>
 ifGV x3 (
 (vBinV (.int .i64) .leq (strip a0) a2).bind fun x7 =>
 some (x7, H)) (
 some ((.bool false), H)) := (callV_eq vb _ _ _ rfl).trans (by kernel_rfl)
theorem impl_isZone_eq (a0 : V) (H : VH) : cv id_impl_isZone [a0] H =
 (qc id_impl_between [(frz H a0), (frz H (.int .i64 (-720))), (frz H (.int .i64 840))]).bind fun x2 =>
 some (x2, H) := (callV_eq vb _ _ _ rfl).trans (by kernel_rfl)
theorem impl_DaysOf_eq (a0 a1 : V) (H : VH) : cv id_impl_DaysOf [a0, a1] H =
 (id (
 (vBinV (.int .i64) .lss a0 (.int .i64 1970)).bind fun x2 =>
 ifGV x2 (
 some (0, [(.int .i64 0)], H)) (
 (vBinV (.int .i64) .gtr (strip a0) (.int .i64 2099)).bind fun x7 =>
 ifVV x7 (
 some (0, [(.int .i64 0)], H)) (
 some (1, [(strip (strip a0)), a1], H))) : Option (Nat × List V × VH))).bind fun r10 =>
 inN r10.1 [
 gotV 1 r10.2.1 fun v11 =>
 some ((v11 0), r10.2.2),
 gotV 2 r10.2.1 fun v12 =>
 (id (
 (vBinV (.int .i64) .eql (v12 1) (.int .i64 1)).bind fun x14 =>
 ifVV x14 (
 some (0, [(v12 0), (v12 1), x14], r10.2.2)) (
 (vBinV (.int .i64) .eql (v12 1) (.int .i64 3)).bind fun x16 =>
 ifVV x16 (
 some (0, [(v12 0), (v12 1), x16], r10.2.2)) (
 (vBinV (.int .i64) .eql (v12 1) (.int .i64 5)).bind fun x18 =>
 ifVV x18 (
 some (0, [(v12 0), (v12 1), x18], r10.2.2)) (
 (vBinV (.int .i64) .eql (v12 1) (.int .i64 7)).bind fun x20 =>
 ifVV x20 (
 some (0, [(v12 0), (v12 1), x20], r10.2.2)) (
 (vBinV (.int .i64) .eql (v12 1) (.int .i64 8)).bind fun x22 =>
 ifVV x22 (
 some (0, [(v12 0), (v12 1), x22], r10.2.2)) (
 (vBinV (.int .i64) .eql (v12 1) (.int .i64 10)).bind fun x24 =>
 ifVV x24 (
 some (0, [(v12 0), (v12 1), x24], r10.2.2)) (
 (vBinV (.int .i64) .eql (v12 1) (.int .i64 12)).bind fun x26 =>
 some (0, [(v12 0), (v12 1), x26], r10.2.2))))))) : Option (Nat × List V × VH))).bind fun r28 =>
 inN r28.1 [
 gotV 3 r28.2.1 fun v29 =>
 ifVV (v29 2) (
 some ((.int .i64 31), r28.2.2)) (
 (id (
 (vBinV (.int .i64) .eql (v29 1) (.int .i64 4)).bind fun x31 =>
 ifVV x31 (
 some (0, [(v29 0), (v29 1), x31], r28.2.2)) (
 (vBinV (.int .i64) .eql (v29 1) (.int .i64 6)).bind fun x33 =>
 ifVV x33 (
 some (0, [(v29 0), (v29 1), x33], r28.2.2)) (
 (vBinV (.int .i64) .eql (v29 1) (.int .i64 9)).bind fun x35 =>
 ifVV x35 (
 some (0, [(v29 0), (v29 1), x35], r28.2.2)) (
 (vBinV (.int .i64) .eql (v29 1) (.int .i64 11)).bind fun x37 =>
 some (0, [(v29 0), (v29 1), x37], r28.2.2)))) : Option (Nat × List V × VH))).bind fun r39 =>
 inN r39.1 [
 gotV 3 r39.2.1 fun v40 =>
 ifVV (v40 2) (
 some ((.int .i64 30), r39.2.2)) (
 (vBinV (.int .i64) .eql (v40 1) (.int .i64 2)).bind fun x42 =>
 ifVV x42 (
 (vBinV (.int .i64) .rem (v40 0) (.int .i64 4)).bind fun x45 =>
 (vBinV (.int .i64) .eql x45 (.int .i64 0)).bind fun x46 =>
 ifGV x46 (
 (vBinV (.int .i64) .rem (strip (v40 0)) (.int .i64 100)).bind fun x49 =>
 (vBinV (.int .i64) .neq x49 (.int .i64 0)).bind fun x50 =>
 ifGV x50 (
 some ((.int .i64 29), r39.2.2)) (
 (vBinV (.int .i64) .rem (strip (strip (v40 0))) (.int .i64 400)).bind fun x56 =>
 (vBinV (.int .i64) .eql x56 (.int .i64 0)).bind fun x57 =>
 ifVV x57 (
 some ((.int .i64 29), r39.2.2)) (
 some ((.int .i64 28), r39.2.2)))) (
 (vBinV (.int .i64) .rem (strip (v40 0)) (.int .i64 400)).bind fun x64 =>
 (vBinV (.int .i64) .eql x64 (.int .i64 0)).bind fun x65 =>
 ifVV x65 (
 some ((.int .i64 29), r39.2.2)) (
 some ((.int .i64 28), r39.2.2)))) (
 some ((.int .i64 0), r39.2.2)))])]] := (callV_eq vb _ _ _ rfl).trans (by kernel_rfl)
theorem impl_DateValid_eq (a0 : V) (H : VH) : cv id_impl_DateValid [a0] H =
 (aggNV 7 a0).bind fun c1 =>
 (qc id_impl_DaysOf [(frz H (strip (c1.getD 0 .nilp))), (frz H (strip (c1.getD 1 .nilp)))]).bind fun x9 =>
 (qc id_impl_between [(frz H (strip (c1.getD 2 .nilp))), (frz H (.int .i64 1)), (frz H x9)]).bind fun x10 =>
 ifGV x10 (
 (qc id_impl_between [(frz H (strip (c1.getD 3 .nilp))), (frz H (.int .i64 0)), (frz H (.int .i64 23))]).bind fun x14 =>
 ifGV x14 (
 (qc id_impl_between [(frz H (strip (c1.getD 4 .nilp))), (frz H (.int .i64 0)), (frz H (.int .i64 59))]).bind fun x19 =>
 ifGV x19 (
 (qc id_impl_between [(frz H (strip (c1.getD 5 .nilp))), (frz H (.int .i64 0)), (frz H (.int .i64 59))]).bind fun x24 =>
 ifGV x24 (
 (qc id_impl_isZone [(frz H (strip (c1.getD 6 .nilp)))]).bind fun x29 =>
 ifGV x29 (
 (qc id_impl_Date_seconds [(frz H (.agg [(strip (c1.getD 0 .nilp)), (strip (c1.getD 1 .nilp)), (strip (c1.getD 2 .nilp)), (strip (c1.getD 3 .nilp)), (strip (c1.getD 4 .nilp)), (strip (c1.getD 5 .nilp)), (strip (c1.getD 6 .nilp))]))]).bind fun x33 =>
 (qc id_impl_between [(frz H x33), (frz H (.int .i64 0)), (frz H (.int .i64 4102444799))]).bind fun x34 =>
 some (x34, H)) (
 some ((.bool false), H))) (
 some ((.bool false), H))) (
 some ((.bool false), H))) (
 some ((.bool false), H))) (
 some ((.bool false), H)) := (callV_eq vb _ _ _ rfl).trans (by kernel_rfl)
theorem impl_Date_seconds_eq (a0 : V) (H : VH) : cv id_impl_Date_seconds [a0] H =
 (aggNV 7 a0).bind fun c1 =>
 (qc id_impl_daysBefore [(frz H (strip (c1.getD 0 .nilp))), (frz H (strip (c1.getD 1 .nilp))), (frz H (strip (c1.getD 2 .nilp)))]).bind fun x9 =>
 (vBinV (.int .i64) .mul x9 (.int .i64 86400)).bind fun x10 =>
 (vBinV (.int .i64) .mul (strip (c1.getD 3 .nilp)) (.int .i64 3600)).bind fun x13 =>
 (vBinV (.int .i64) .add x10 x13).bind fun x14 =>
 (vBinV (.int .i64) .mul (strip (c1.getD 4 .nilp)) (.int .i64 60)).bind fun x17 =>
 (vBinV (.int .i64) .add x14 x17).bind fun x18 =>
 (vBinV (.int .i64) .add x18 (strip (c1.getD 5 .nilp))).bind fun x21 =>
 (vBinV (.int .i64) .mul (strip (c1.getD 6 .nilp)) (.int .i64 60)).bind fun x24 =>
 (vBinV (.int .i64) .sub x21 x24).bind fun x25 =>
 some (x25, H) := (callV_eq vb _ _ _ rfl).trans (by kernel_rfl)
noncomputable def impl_daysBefore_l6 : List V -> VH -> Option (Option Nat × List V × VH) := roundV (vb.ctx cv lpW') (vb.b.ann 97) (vb.takes 97) ⟨⟨[0, 1, 7, 8, 9], [], []⟩, [(.exit 2, ⟨[0, 1, 7, 8], [], []⟩)]⟩ (loopIn Tryz.f97 6)
noncomputable def impl_daysBefore_l3 : List V -> VH -> Option (Option Nat × List V × VH) := roundV (vb.ctx cv lpW') (vb.b.ann 97) (vb.takes 97) ⟨⟨[0, 1, 7, 8], [], []⟩, [(.exit 0, ⟨[7], [], []⟩)]⟩ (loopIn Tryz.f97 3)
theorem impl_daysBefore_l6_eq (v0 v1 v2 v3 v4 : V) (H : VH) : impl_daysBefore_l6 [v0, v1, v2, v3, v4] H =
 (id (
 (vBinV (.int .i64) .leq v4 (.int .i64 12)).bind fun x10 =>
 ifGV x10 (
 (vBinV (.int .i64) .lss v3 v0).bind fun x14 =>
 ifGV x14 (
 some (0, [(strip v0), v1, v2, (strip v3), (strip v4)], H)) (
 (vBinV (.int .i64) .lss (strip v4) v1).bind fun x20 =>
 ifVV x20 (
 some (0, [(strip v0), (strip v1), v2, (strip v3), (strip (strip v4))], H)) (
 some (1, [(strip v0), (strip v1), v2, (strip v3)], H)))) (
 some (1, [v0, v1, v2, v3], H)) : Option (Nat × List V × VH))).bind fun r24 =>
 inN r24.1 [
 gotV 5 r24.2.1 fun v25 =>
 (qc id_impl_DaysOf [(frz r24.2.2 (v25 3)), (frz r24.2.2 (v25 4))]).bind fun x29 =>
 (vBinV (.int .i64) .add (v25 2) x29).bind fun x30 =>
 (vBinV (.int .i64) .add (strip (v25 4)) (.int .i64 1)).bind fun x33 =>
 some (none, [(v25 0), (v25 1), x30, (strip (v25 3)), x33], r24.2.2),
 gotV 4 r24.2.1 fun v35 =>
 some (some 0, [(v35 0), (v35 1), (v35 2), (v35 3)], r24.2.2)] := by kernel_rfl
theorem impl_daysBefore_l3_eq (v0 v1 v2 v3 : V) (H : VH) : impl_daysBefore_l3 [v0, v1, v2, v3] H =
 (vBinV (.int .i64) .leq v3 v0).bind fun x7 =>
 ifVV x7 (
 (lpW' impl_daysBefore_l6 [(strip v0), v1, v2, (strip v3), (.int .i64 1)] H).bind fun r36 =>
 inN r36.1 [
 gotV 4 r36.2.1 fun v37 =>
 (vBinV (.int .i64) .add (v37 3) (.int .i64 1)).bind fun x39 =>
 some (none, [(v37 0), (v37 1), (v37 2), x39], r36.2.2)]) (
 some (some 0, [v2], H)) := by kernel_rfl
theorem impl_daysBefore_eq (a0 a1 a2 : V) (H : VH) : cv id_impl_daysBefore [a0, a1, a2] H =
 (vBinV (.int .i64) .sub a2 (.int .i64 1)).bind fun x2 =>
 (lpW' impl_daysBefore_l3 [a0, a1, x2, (.int .i64 1970)] H).bind fun r41 =>
 inN r41.1 [
 gotV 1 r41.2.1 fun v42 =>
 some ((v42 0), r41.2.2)] := (callV_eq vb _ _ _ rfl).trans (by kernel_rfl)
theorem impl_gate_line_eq (a0 a1 : V) (H : VH) : cv id_impl_gate_line [a0, a1] H =
 (qc id_strings_Cut [(frz H a1), (frz H (.str [32]))]).bind fun x2 =>
 (vExtV x2 0).bind fun x4 =>
 (vExtV x2 1).bind fun x5 =>
 (vExtV x2 2).bind fun x6 =>
 (vUnV .not (strip x6)).bind fun x11 =>
 ifVV x11 (
 (cv id_impl_gate_wordLine [(strip a0), (strip (strip x4))] H).bind fun r15 =>
 some (r15.1, r15.2)) (
 (vBinV .str .eql (strip x4) (.str [115, 97, 121])).bind fun x18 =>
 ifVV x18 (
 (cv id_impl_gate_sayLine [(strip a0), (strip (strip x5))] H).bind fun r23 =>
 some (r23.1, r23.2)) (
 (vBinV .str .eql (strip x4) (.str [98, 111, 120])).bind fun x25 =>
 ifVV x25 (
 (vNilV a0).bind fun x28 =>
 (vOffV x28 0).bind fun x29 =>
 (ldO globB false false 1 x29 H).bind fun r31 =>
 (pc id_impl_AddBox [(frz r31.2 r31.1), (frz r31.2 (strip x5))]).bind fun x33 =>
 (vExtV x33 0).bind fun x35 =>
 (vExtV (stripAt 0 x33) 1).bind fun x36 =>
 (vUnV .not (strip x36)).bind fun x40 =>
 ifVV x40 (
 some ((.str [119, 104, 97, 116, 10]), r31.2)) (
 (vNilV (strip a0)).bind fun x44 =>
 (vOffV x44 0).bind fun x45 =>
 (vOneV x35).bind fun y47 =>
 (stO x45 [y47] r31.2).bind fun H48 =>
 some ((.str [111, 107, 10]), H48))) (
 (vBinV .str .eql (strip x4) (.str [116, 97, 107, 101])).bind fun x50 =>
 ifVV x50 (
 (cv id_impl_gate_take [(strip a0), (strip (strip x5))] H).bind fun r55 =>
 some (r55.1, r55.2)) (
 (vBinV .str .eql (strip x4) (.str [100, 97, 116, 101])).bind fun x57 =>
 ifVV x57 (
 (pc id_impl_ParseDate [(frz H (strip x5))]).bind fun x60 =>
 (vExtV x60 0).bind fun x62 =>
 (vExtV x60 1).bind fun x63 =>
 (aggNV 7 (strip x62)).bind fun c66 =>
 (vUnV .not (strip x63)).bind fun x69 =>
 ifVV x69 (
 some ((.str [119, 104, 97, 116, 10]), H)) (
 (vNilV a0).bind fun x73 =>
 (vOffV x73 7).bind fun x74 =>
 (stO x74 [(strip (c66.getD 0 .nilp)), (strip (c66.getD 1 .nilp)), (strip (c66.getD 2 .nilp)), (strip (c66.getD 3 .nilp)), (strip (c66.getD 4 .nilp)), (strip (c66.getD 5 .nilp)), (strip (c66.getD 6 .nilp))] H).bind fun H76 =>
 (qc id_impl_FormatDate [(frz H76 (.agg [(strip (c66.getD 0 .nilp)), (strip (c66.getD 1 .nilp)), (strip (c66.getD 2 .nilp)), (strip (c66.getD 3 .nilp)), (strip (c66.getD 4 .nilp)), (strip (c66.getD 5 .nilp)), (strip (c66.getD 6 .nilp))]))]).bind fun x78 =>
 (vBinV .str .add x78 (.str [10])).bind fun x79 =>
 some (x79, H76))) (
 (qc id_impl_readLine [(frz H (strip (strip x4))), (frz H (strip x5))]).bind fun x83 =>
 (vExtV x83 0).bind fun x85 =>
 (vExtV x83 1).bind fun x86 =>
 (vUnV .not (strip x86)).bind fun x90 =>
 ifVV x90 (
 some ((.str [119, 104, 97, 116, 10]), H)) (
 (vBinV .str .add (.str [61, 32]) (strip x85)).bind fun x93 =>
 (vBinV .str .add x93 (.str [10])).bind fun x94 =>
 some (x94, H))))))) := (callV_eq vb _ _ _ rfl).trans (by kernel_rfl)
theorem impl_gate_wordLine_eq (a0 a1 : V) (H : VH) : cv id_impl_gate_wordLine [a0, a1] H =
 (vBinV .str .eql a1 (.str [115, 97, 121])).bind fun x2 =>
 ifVV x2 (
 (cv id_impl_gate_sayLine [(strip a0), (.str [])] H).bind fun r6 =>
 some (r6.1, r6.2)) (
 (vBinV .str .eql a1 (.str [111, 112, 101, 110])).bind fun x8 =>
 ifVV x8 (
 (vNilV a0).bind fun x12 =>
 (vOffV x12 1).bind fun x13 =>
 (stO x13 [(.int .i64 0), (.str []), (.str []), (.sl true []), (.sl true []), (.sl true [])] H).bind fun H15 =>
 some ((.str [111, 107, 10]), H15)) (
 (vBinV .str .eql a1 (.str [99, 108, 101, 97, 114])).bind fun x17 =>
 ifVV x17 (
 (pc id_impl_newGate []).bind fun x20 =>
 (vNilV a0).bind fun x21 =>
 (aggNV 14 x20).bind fun c23 =>
 (stO x21 [(c23.getD 0 .nilp), (c23.getD 1 .nilp), (c23.getD 2 .nilp), (c23.getD 3 .nilp), (c23.getD 4 .nilp), (c23.getD 5 .nilp), (c23.getD 6 .nilp), (c23.getD 7 .nilp), (c23.getD 8 .nilp), (c23.getD 9 .nilp), (c23.getD 10 .nilp), (c23.getD 11 .nilp), (c23.getD 12 .nilp), (c23.getD 13 .nilp)] H).bind fun H24 =>
 some ((.str [111, 107, 10]), H24)) (
 (vBinV .str .eql a1 (.str [112, 97, 115, 115])).bind fun x26 =>
 ifVV x26 (
 (cv id_impl_gate_pass [(strip a0)] H).bind fun r30 =>
 some (r30.1, r30.2)) (
 (vBinV .str .eql a1 (.str [104, 101, 108, 100])).bind fun x32 =>
 ifVV x32 (
 (vNilV a0).bind fun x35 =>
 (vOffV x35 0).bind fun x36 =>
 (ldO globB false false 1 x36 H).bind fun r38 =>
 (qc id_impl_CountHeld [(frz r38.2 r38.1)]).bind fun x39 =>
 (qc id_impl_decimal [(frz r38.2 x39), (frz r38.2 (.int .i64 1))]).bind fun x40 =>
 (vBinV .str .add (.str [104, 101, 108, 100, 32]) x40).bind fun x41 =>
 (vBinV .str .add x41 (.str [10])).bind fun x42 =>
 some (x42, r38.2)) (
 (vBinV .str .eql a1 (.str [100, 111, 110, 101])).bind fun x44 =>
 ifVV x44 (
 (vNilV a0).bind fun x47 =>
 (vOffV x47 1).bind fun x48 =>
 (vOffV x48 5).bind fun x49 =>
 (ldO globB false false 1 x49 H).bind fun r51 =>
 (vLenVV r51.1).bind fun x52 =>
 (qc id_impl_decimal [(frz r51.2 x52), (frz r51.2 (.int .i64 1))]).bind fun x53 =>
 (vBinV .str .add (.str [100, 111, 110, 101, 32]) x53).bind fun x54 =>
 (vBinV .str .add x54 (.str [10])).bind fun x55 =>
 some (x55, r51.2)) (
 some ((.str [119, 104, 97, 116, 10]), H))))))) := (callV_eq vb _ _ _ rfl).trans (by kernel_rfl)
theorem impl_gate_sayLine_eq (a0 a1 : V) (H : VH) : cv id_impl_gate_sayLine [a0, a1] H =
 (vNilV a0).bind fun x2 =>
 (vOffV x2 1).bind fun x3 =>
 (ldO globB false true 6 x3 H).bind fun r5 =>
 (pc id_impl_SayLine [(frz r5.2 r5.1), (frz r5.2 a1)]).bind fun x7 =>
 (vExtV x7 0).bind fun x9 =>
 (vExtV (stripAt 0 x7) 1).bind fun x10 =>
 (vExtV (stripAt 0 x7) 2).bind fun x11 =>
 (aggNV 6 x9).bind fun c14 =>
 (vUnV .not (strip x11)).bind fun x18 =>
 ifVV x18 (
 some ((.str [119, 104, 97, 116, 10]), r5.2)) (
 (vNilV (strip a0)).bind fun x22 =>
 (vOffV x22 1).bind fun x23 =>
 (stO x23 [(c14.getD 0 .nilp), (c14.getD 1 .nilp), (c14.getD 2 .nilp), (c14.getD 3 .nilp), (c14.getD 4 .nilp), (c14.getD 5 .nilp)] r5.2).bind fun H25 =>
 (vBinV (.int .i64) .eql (strip x10) (.int .i64 0)).bind fun x27 =>
 ifVV x27 (
 some ((.str [45, 10]), H25)) (
 (qc id_impl_ReplyText [(frz H25 (strip (strip x10)))]).bind fun x30 =>
 (vBinV .str .add x30 (.str [10])).bind fun x31 =>
 some (x31, H25))) := (callV_eq vb _ _ _ rfl).trans (by kernel_rfl)
noncomputable def impl_decimal_l2 : List V -> VH -> Option (Option Nat × List V × VH) := roundV (vb.ctx cv lpW') (vb.b.ann 49) (vb.takes 49) ⟨⟨[0, 1, 5], [], []⟩, [(.exit 0, ⟨[5], [], []⟩)]⟩ (loopIn Tryz.f49 2)
theorem impl_decimal_l2_eq (v0 v1 v2 : V) (H : VH) : impl_decimal_l2 [v0, v1, v2] H =
 (id (
 (vBinV (.int .i64) .gtr v0 (.int .i64 0)).bind fun x3 =>
 ifGV x3 (
 some (0, [(strip v0), v1, v2], H)) (
 (vBinV (.int .i64) .gtr v1 (.int .i64 0)).bind fun x7 =>
 ifVV x7 (
 some (0, [(strip v0), (strip v1), v2], H)) (
 some (1, [v2], H))) : Option (Nat × List V × VH))).bind fun r9 =>
 inN r9.1 [
 gotV 3 r9.2.1 fun v10 =>
 (vBinV (.int .i64) .rem (v10 0) (.int .i64 10)).bind fun x12 =>
 (vBinV (.int .i64) .rem (strip (v10 0)) (.int .i64 10)).bind fun x14 =>
 (vBinV (.int .i64) .add x14 (.int .i64 1)).bind fun x15 =>
 (vSliceSV (.str [48, 49, 50, 51, 52, 53, 54, 55, 56, 57]) (some x12) (some x15)).bind fun x16 =>
 (vBinV .str .add x16 (v10 2)).bind fun x18 =>
 (vBinV (.int .i64) .quo (strip (strip (v10 0))) (.int .i64 10)).bind fun x21 =>
 (vBinV (.int .i64) .sub (v10 1) (.int .i64 1)).bind fun x24 =>
 some (none, [x21, x24, x18], r9.2.2),
 gotV 1 r9.2.1 fun v26 =>
 some (some 0, [(v26 0)], r9.2.2)] := by kernel_rfl
theorem impl_decimal_eq (a0 a1 : V) (H : VH) : cv id_impl_decimal [a0, a1] H =
 (lpW' impl_decimal_l2 [a0, a1, (.str [])] H).bind fun r27 =>
 inN r27.1 [
 gotV 1 r27.2.1 fun v28 =>
 some ((v28 0), r27.2.2)] := (callV_eq vb _ _ _ rfl).trans (by kernel_rfl)
end Go.Proofs.YtpmpggihngmnoaaGreatDoor.Q
