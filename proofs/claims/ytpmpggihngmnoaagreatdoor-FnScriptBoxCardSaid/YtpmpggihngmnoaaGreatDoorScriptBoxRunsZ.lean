/- What a call of each function comes to. -/
import Derived.Test.YtpmpggihngmnoaaGreatDoorScriptBoxBaseZ
namespace Go.Proofs.YtpmpggihngmnoaaGreatDoor.Q
open Go Go.AM Go.Proofs
set_option linter.unusedVariables false
set_option maxRecDepth 100000
theorem laws_FnScriptBox_eq (a0 : V) (H : VH) : cv id_laws_FnScriptBox [a0] H =
 (vLenVV (strip a0)).bind fun x2 =>
 (vBinV (.int .i64) .gtr x2 (.int .i64 1048576)).bind fun x3 =>
 ifVV x3 (
 some ((.bool true), H)) (
 (pc id_spec_DrawAddBox [(frz H a0)]).bind fun x6 =>
 (vExtV x6 0).bind fun x8 =>
 (vExtV x6 1).bind fun x9 =>
 (pc id_impl_AddBox [(frz H (.sl true [])), (frz H (strip x9))]).bind fun x13 =>
 (vExtV x13 0).bind fun x15 =>
 (vExtV x13 1).bind fun x16 =>
 (pc id_spec_AddBox [(frz H (.sl true [])), (frz H (strip (strip x9)))]).bind fun x20 =>
 (vExtV x20 0).bind fun x22 =>
 (vExtV x20 1).bind fun x23 =>
 (id (
 (qc id_impl_BoxesSame [(frz H (strip (strip (strip x15)))), (frz H (strip (strip (strip x22))))]).bind fun x28 =>
 (vUnV .not x28).bind fun x29 =>
 ifGV x29 (
 some (0, [(.bool false)], H)) (
 (vBinV .bool .neq (strip x16) (strip x23)).bind fun x35 =>
 ifVV x35 (
 some (0, [(.bool false)], H)) (
 some (1, [(strip (strip (strip x9))), (strip (strip x16))], H))) : Option (Nat × List V × VH))).bind fun r38 =>
 inN r38.1 [
 gotV 1 r38.2.1 fun v39 =>
 some ((v39 0), r38.2.2),
 gotV 2 r38.2.1 fun v40 =>
 (vUnV .not (v40 1)).bind fun x42 =>
 ifVV x42 (
 (vBinV .str .add (.str [98, 111, 120, 32]) (v40 0)).bind fun x44 =>
 (vBinV .str .add x44 (.str [10, 104, 101, 108, 100, 10])).bind fun x45 =>
 (qc id_impl_RunScript [(frz r38.2.2 x45)]).bind fun x46 =>
 (vBinV .str .eql x46 (.str [119, 104, 97, 116, 10, 104, 101, 108, 100, 32, 48, 10])).bind fun x47 =>
 some (x47, r38.2.2)) (
 (vBinV .str .add (.str [98, 111, 120, 32]) (v40 0)).bind fun x50 =>
 (vBinV .str .add x50 (.str [10, 98, 111, 120, 32])).bind fun x51 =>
 (vBinV .str .add x51 (strip (v40 0))).bind fun x53 =>
 (vBinV .str .add x53 (.str [10, 116, 97, 107, 101, 32])).bind fun x54 =>
 (vBinV .str .add x54 (strip (strip (v40 0)))).bind fun x56 =>
 (vBinV .str .add x56 (.str [10, 104, 101, 108, 100, 10])).bind fun x57 =>
 (qc id_impl_RunScript [(frz r38.2.2 x57)]).bind fun x58 =>
 (vBinV .str .eql x58 (.str [111, 107, 10, 119, 104, 97, 116, 10, 119, 104, 97, 116, 10, 104, 101, 108, 100, 32, 48, 10])).bind fun x59 =>
 some (x59, r38.2.2))]) := (callV_eq vb _ _ _ rfl).trans (by kernel_rfl)
theorem spec_DrawAddBox_eq (a0 : V) (H : VH) : cv id_spec_DrawAddBox [a0] H =
 (cv id_spec_l13Open [a0] H).bind fun r4 =>
 (cv id_spec_l11Draw [(strip (strip r4.1))] r4.2).bind fun r9 =>
 (cv id_spec_l11Wrong [(strip r4.1), (strip r9.1)] r9.2).bind fun r11 =>
 (cv id_spec_l13Rd_of [(strip (strip (strip r4.1))), (.sl false (stripLL [[(.str [110, 101, 119, 64, 120, 46, 111, 114, 103])], [(.str [98, 111, 98, 64, 121, 46, 111, 114, 103])], [(.str [97, 64, 98])], [(.str [97, 64, 66])], [(.str [120])], [(.str [122, 101, 100, 64, 122])]]))] r11.2).bind fun r15 =>
 some ((.tup [r11.1, r15.1]), r15.2) := (callV_eq vb _ _ _ rfl).trans (by kernel_rfl)
theorem spec_l13Open_eq (a0 : V) (H : VH) : cv id_spec_l13Open [a0] H =
 (id (
 (vLenVV (strip a0)).bind fun x2 =>
 (vBinV (.int .i64) .gtr x2 (.int .i64 2000)).bind fun x3 =>
 ifVV x3 (
 (vSliceVV 1 (strip a0) none (some (.int .i64 2000))).bind fun x5 =>
 some (0, [x5], H)) (
 some (0, [a0], H)) : Option (Nat × List V × VH))).bind fun r7 =>
 inN r7.1 [
 gotV 1 r7.2.1 fun v8 =>
 (vOneV (v8 0)).bind fun y11 =>
 some ((.ptr r7.2.2.length 0), (r7.2.2 ++ [[y11, (.int .i64 0)]]))] := (callV_eq vb _ _ _ rfl).trans (by kernel_rfl)
noncomputable def spec_l11Draw_l3 : List V -> VH -> Option (Option Nat × List V × VH) := roundV (vb.ctx cv lpW') (vb.b.ann 52) (vb.takes 52) ⟨⟨[0, 3, 4], [], []⟩, [(.exit 0, ⟨[0, 3], [], []⟩)]⟩ (loopIn Tryz.f52 3)
noncomputable def spec_l11Draw_l9 : List V -> VH -> Option (Option Nat × List V × VH) := roundV (vb.ctx cv lpW') (vb.b.ann 52) (vb.takes 52) ⟨⟨[0, 3, 7], [], []⟩, [(.exit 2, ⟨[3], [], []⟩)]⟩ (loopIn Tryz.f52 9)
theorem spec_l11Draw_l3_eq (v0 v1 v2 : V) (H : VH) : spec_l11Draw_l3 [v0, v1, v2] H =
 (vBinV (.int .i64) .gtr v2 (.int .i64 0)).bind fun x9 =>
 ifVV x9 (
 (id (
 (cv id_spec_l13Rd_of [(strip v0), (.sl false (stripLL [[(.str [98, 111, 98, 64, 121, 46, 111, 114, 103])], [(.str [97, 110, 110, 64, 120, 46, 111, 114, 103])], [(.str [99, 121, 64, 120, 46, 111, 114, 103])], [(.str [100, 64, 101])]]))] H).bind fun r14 =>
 (pc id_spec_AddBox [(frz r14.2 (strip v1)), (frz r14.2 r14.1)]).bind fun x15 =>
 (vExtV x15 0).bind fun x17 =>
 (vExtV (stripAt 0 x15) 1).bind fun x18 =>
 ifVV (strip x18) (
 some (0, [(strip v0), x17, (strip v2)], r14.2)) (
 some (0, [(strip v0), v1, (strip v2)], r14.2)) : Option (Nat × List V × VH))).bind fun r24 =>
 inN r24.1 [
 gotV 3 r24.2.1 fun v25 =>
 (vBinV (.int .i64) .sub (v25 2) (.int .i64 1)).bind fun x27 =>
 some (none, [(v25 0), (v25 1), x27], r24.2.2)]) (
 some (some 0, [v0, v1], H)) := by kernel_rfl
theorem spec_l11Draw_l9_eq (v0 v1 v2 : V) (H : VH) : spec_l11Draw_l9 [v0, v1, v2] H =
 (vBinV (.int .i64) .gtr v2 (.int .i64 0)).bind fun x37 =>
 ifVV x37 (
 (cv id_spec_l10DrawMail [(strip v0)] H).bind fun r41 =>
 (pc id_spec_DeliverMail [(frz r41.2 (strip v1)), (frz r41.2 r41.1)]).bind fun x42 =>
 (vExtV x42 0).bind fun x44 =>
 (vExtV (stripAt 0 x42) 1).bind fun x45 =>
 (vExtV (stripAt 0 x42) 2).bind fun x46 =>
 (vBinV (.int .i64) .sub (strip v2) (.int .i64 1)).bind fun x49 =>
 some (none, [(strip v0), x44, x49], r41.2)) (
 some (some 0, [v1], H)) := by kernel_rfl
theorem spec_l11Draw_eq (a0 : V) (H : VH) : cv id_spec_l11Draw [a0] H =
 (cv id_spec_l13Rd_num [(strip a0), (.sl false (stripLL [[(.int .i64 2)], [(.int .i64 3)], [(.int .i64 1)], [(.int .i64 0)]]))] H).bind fun r6 =>
 (lpW' spec_l11Draw_l3 [(strip a0), (.sl true []), r6.1] r6.2).bind fun r29 =>
 inN r29.1 [
 gotV 2 r29.2.1 fun v30 =>
 (cv id_spec_l13Rd_num [(strip (v30 0)), (.sl false (stripLL [[(.int .i64 1)], [(.int .i64 2)], [(.int .i64 0)], [(.int .i64 5)]]))] r29.2.2).bind fun r34 =>
 (lpW' spec_l11Draw_l9 [(strip (v30 0)), (v30 1), r34.1] r34.2).bind fun r51 =>
 inN r51.1 [
 gotV 1 r51.2.1 fun v52 =>
 some ((v52 0), r51.2.2)]] := (callV_eq vb _ _ _ rfl).trans (by kernel_rfl)
theorem spec_l13Rd_num_eq (a0 a1 : V) (H : VH) : cv id_spec_l13Rd_num [a0, a1] H =
 (vLenVV (strip a1)).bind fun x4 =>
 (cv id_spec_l13Rd_pick [(strip a0), (strip x4)] H).bind fun r6 =>
 (vIdxV 1 (strip a1) r6.1).bind fun x7 =>
 (ldO globB false false 1 x7 r6.2).bind fun r9 =>
 some (r9.1, r9.2) := (callV_eq vb _ _ _ rfl).trans (by kernel_rfl)
theorem spec_l13Rd_pick_eq (a0 a1 : V) (H : VH) : cv id_spec_l13Rd_pick [a0, a1] H =
 (vNilV (strip a0)).bind fun x3 =>
 (vOffV x3 1).bind fun x4 =>
 (ldO globB false false 1 x4 H).bind fun r6 =>
 (vBinV (.int .i64) .add r6.1 (.int .i64 1)).bind fun x7 =>
 (vNilV a0).bind fun x8 =>
 (vOffV x8 1).bind fun x9 =>
 (vOneV x7).bind fun y11 =>
 (stO x9 [y11] r6.2).bind fun H12 =>
 (id (
 (vBinV (.int .i64) .lss a1 (.int .i64 1)).bind fun x14 =>
 ifGV x14 (
 some (0, [(.int .i64 0)], H12)) (
 (vNilV (strip (strip a0))).bind fun x19 =>
 (vOffV x19 0).bind fun x20 =>
 (ldO globB false false 1 x20 H12).bind fun r22 =>
 (vLenVV r22.1).bind fun x23 =>
 (vBinV (.int .i64) .eql x23 (.int .i64 0)).bind fun x24 =>
 ifVV x24 (
 some (0, [(.int .i64 0)], r22.2)) (
 some (1, [(strip (strip (strip a0))), (strip a1)], r22.2))) : Option (Nat × List V × VH))).bind fun r27 =>
 inN r27.1 [
 gotV 1 r27.2.1 fun v28 =>
 some ((v28 0), r27.2.2),
 gotV 2 r27.2.1 fun v29 =>
 (vNilV (v29 0)).bind fun x31 =>
 (vOffV x31 1).bind fun x32 =>
 (ldO globB false false 1 x32 r27.2.2).bind fun r34 =>
 (vBinV (.int .i64) .sub r34.1 (.int .i64 1)).bind fun x35 =>
 (vNilV (strip (v29 0))).bind fun x39 =>
 (vOffV x39 0).bind fun x40 =>
 (ldO globB false false 1 x40 r34.2).bind fun r42 =>
 (vLenVV r42.1).bind fun x43 =>
 (vBinV (.int .i64) .lss x35 x43).bind fun x44 =>
 ifVV x44 (
 (vNilV (strip (strip (v29 0)))).bind fun x46 =>
 (vOffV x46 0).bind fun x47 =>
 (ldO globB false false 1 x47 r42.2).bind fun r49 =>
 (vIdxV 1 r49.1 (strip x35)).bind fun x51 =>
 (ldO globB false false 1 x51 r49.2).bind fun r53 =>
 (vConvV .i64 r53.1).bind fun x54 =>
 (vBinV (.int .i64) .rem x54 (v29 1)).bind fun x56 =>
 some (x56, r53.2)) (
 (vNilV (strip (strip (v29 0)))).bind fun x59 =>
 (vOffV x59 0).bind fun x60 =>
 (ldO globB false false 1 x60 r42.2).bind fun r62 =>
 (vNilV (strip (strip (strip (v29 0))))).bind fun x65 =>
 (vOffV x65 0).bind fun x66 =>
 (ldO globB false false 1 x66 r62.2).bind fun r68 =>
 (vLenVV r68.1).bind fun x69 =>
 (vBinV (.int .i64) .rem (strip x35) x69).bind fun x70 =>
 (vIdxV 1 r62.1 x70).bind fun x71 =>
 (ldO globB false false 1 x71 r68.2).bind fun r73 =>
 (vConvV .i64 r73.1).bind fun x74 =>
 (vBinV (.int .i64) .mul x74 (.int .i64 131)).bind fun x75 =>
 (vNilV (strip (strip (strip (strip (v29 0)))))).bind fun x77 =>
 (vOffV x77 0).bind fun x78 =>
 (ldO globB false false 1 x78 r73.2).bind fun r80 =>
 (vBinV (.int .i64) .mul (strip (strip x35)) (.int .i64 7)).bind fun x82 =>
 (vBinV (.int .i64) .add x82 (.int .i64 3)).bind fun x83 =>
 (vNilV (strip (strip (strip (strip (strip (v29 0))))))).bind fun x85 =>
 (vOffV x85 0).bind fun x86 =>
 (ldO globB false false 1 x86 r80.2).bind fun r88 =>
 (vLenVV r88.1).bind fun x89 =>
 (vBinV (.int .i64) .rem x83 x89).bind fun x90 =>
 (vIdxV 1 r80.1 x90).bind fun x91 =>
 (ldO globB false false 1 x91 r88.2).bind fun r93 =>
 (vConvV .i64 r93.1).bind fun x94 =>
 (vBinV (.int .i64) .mul x94 (.int .i64 1117)).bind fun x95 =>
 (vBinV (.int .i64) .add x75 x95).bind fun x96 =>
 (vBinV (.int .i64) .mul (strip (strip (strip x35))) (.int .i64 29)).bind fun x98 =>
 (vBinV (.int .i64) .add x96 x98).bind fun x99 =>
 (vNilV (strip (strip (strip (strip (strip (strip (v29 0)))))))).bind fun x102 =>
 (vOffV x102 0).bind fun x103 =>
 (ldO globB false false 1 x103 r93.2).bind fun r105 =>
 (vLenVV r105.1).bind fun x106 =>
 (vBinV (.int .i64) .quo (strip (strip (strip (strip x35)))) x106).bind fun x107 =>
 (vBinV (.int .i64) .mul x107 (.int .i64 53)).bind fun x108 =>
 (vBinV (.int .i64) .add x99 x108).bind fun x109 =>
 (vBinV (.int .i64) .quo (strip x109) (.int .i64 64)).bind fun x113 =>
 (vBinV (.int .i64) .xor x109 x113).bind fun x114 =>
 (vBinV (.int .i64) .rem x114 (v29 1)).bind fun x118 =>
 some (x118, r105.2))] := (callV_eq vb _ _ _ rfl).trans (by kernel_rfl)
theorem spec_l13Rd_of_eq (a0 a1 : V) (H : VH) : cv id_spec_l13Rd_of [a0, a1] H =
 (vLenVV (strip a1)).bind fun x4 =>
 (cv id_spec_l13Rd_pick [(strip a0), (strip x4)] H).bind fun r6 =>
 (vIdxV 1 (strip a1) r6.1).bind fun x7 =>
 (ldO globB false false 1 x7 r6.2).bind fun r9 =>
 some (r9.1, r9.2) := (callV_eq vb _ _ _ rfl).trans (by kernel_rfl)
theorem spec_AddBox_eq (a0 a1 : V) (H : VH) : cv id_spec_AddBox [a0, a1] H =
 (pc id_spec_l11RawAddBox [(frz H (strip a0)), (frz H a1)]).bind fun x4 =>
 (vExtV x4 0).bind fun x6 =>
 (vExtV x4 1).bind fun x7 =>
 (pc id_spec_l13OwnListBox [(frz H (strip (strip (strip x6))))]).bind fun x11 =>
 some ((.tup [x11, (strip x7)]), H) := (callV_eq vb _ _ _ rfl).trans (by kernel_rfl)
noncomputable def spec_l11RawAddBox_l7 : List V -> VH -> Option (Option Nat × List V × VH) := roundV (vb.ctx cv lpW') (vb.b.ann 58) (vb.takes 58) ⟨⟨[1, 6, 7, 8, 9], [], []⟩, [(.exit 0, ⟨[1, 6, 7], [], []⟩)]⟩ (loopIn Tryz.f58 7)
theorem spec_l11RawAddBox_l7_eq (v0 v1 v2 v3 v4 : V) (H : VH) : spec_l11RawAddBox_l7 [v0, v1, v2, v3, v4] H =
 (vLenVV (strip v3)).bind fun x54 =>
 (vBinV (.int .i64) .lss v4 x54).bind fun x55 =>
 ifVV x55 (
 (id (
 (id (
 (vUnV .not v2).bind fun x57 =>
 ifGV x57 (
 (vIdxV 2 (strip v3) (strip v4)).bind fun x62 =>
 (vOffV x62 0).bind fun x63 =>
 (ldO globB false false 1 x63 H).bind fun r65 =>
 (vBinV .str .lss v0 r65.1).bind fun x66 =>
 ifVV x66 (
 (vOneV (strip v0)).bind fun y71 =>
 (ownV v1).bind fun s74 =>
 (appV false 2 40 s74 (.sl true [[y71, (.sl true [])]])).bind fun x73 =>
 some (0, [(strip (strip v0)), x73, (.bool true), v3, (strip (strip v4))], r65.2)) (
 some (0, [(strip v0), v1, (strip v2), v3, (strip (strip v4))], r65.2))) (
 some (0, [v0, v1, (strip v2), v3, (strip v4)], H)) : Option (Nat × List V × VH))).bind fun r78 =>
 inN r78.1 [
 gotV 5 r78.2.1 fun v79 =>
 (vIdxV 2 (strip (v79 3)) (v79 4)).bind fun x83 =>
 (ldO globB true true 2 x83 r78.2.2).bind fun r85 =>
 (aggNV 2 r85.1).bind fun c87 =>
 (ownV (v79 1)).bind fun s89 =>
 (appV false 2 40 s89 (.sl true [[(c87.getD 0 .nilp), (c87.getD 1 .nilp)]])).bind fun x88 =>
 some (0, [(v79 0), x88, (v79 2), (v79 3), (strip (v79 4))], r85.2)] : Option (Nat × List V × VH))).bind fun r91 =>
 inN r91.1 [
 gotV 5 r91.2.1 fun v92 =>
 (vBinV (.int .i64) .add (v92 4) (.int .i64 1)).bind fun x94 =>
 some (none, [(v92 0), (v92 1), (v92 2), (v92 3), x94], r91.2.2)]) (
 some (some 0, [v0, v1, v2], H)) := by kernel_rfl
theorem spec_l11RawAddBox_eq (a0 a1 : V) (H : VH) : cv id_spec_l11RawAddBox [a0, a1] H =
 (id (
 (qc id_spec_BoxesValid [(frz H (strip a0))]).bind fun x3 =>
 (vUnV .not x3).bind fun x4 =>
 ifGV x4 (
 some (0, [(.sl true []), (.bool false)], H)) (
 (qc id_spec_l10Box [(frz H a1)]).bind fun x15 =>
 (vUnV .not x15).bind fun x16 =>
 ifGV x16 (
 some (0, [(.sl true []), (.bool false)], H)) (
 (qc id_spec_l11Find [(frz H (strip a0)), (frz H (strip a1))]).bind fun x27 =>
 (vBinV (.int .i64) .geq x27 (.int .i64 0)).bind fun x28 =>
 ifGV x28 (
 some (0, [(.sl true []), (.bool false)], H)) (
 (vLenVV (strip a0)).bind fun x36 =>
 (vBinV (.int .i64) .eql x36 (.int .i64 8)).bind fun x37 =>
 ifVV x37 (
 some (0, [(.sl true []), (.bool false)], H)) (
 some (1, [a0, (strip (strip a1))], H))))) : Option (Nat × List V × VH))).bind fun r42 =>
 inN r42.1 [
 gotV 2 r42.2.1 fun v43 =>
 some ((.tup [(v43 0), (v43 1)]), r42.2.2),
 gotV 2 r42.2.1 fun v44 =>
 (pc id_spec_l11Copy [(frz r42.2.2 (strip (v44 0)))]).bind fun x49 =>
 (lpW' spec_l11RawAddBox_l7 [(v44 1), (.sl true []), (.bool false), (strip x49), (.int .i64 0)] r42.2.2).bind fun r96 =>
 inN r96.1 [
 gotV 3 r96.2.1 fun v97 =>
 (id (
 (vUnV .not (v97 2)).bind fun x99 =>
 ifVV x99 (
 (vOneV (v97 0)).bind fun y103 =>
 (ownV (v97 1)).bind fun s106 =>
 (appV false 2 40 s106 (.sl true [[y103, (.sl true [])]])).bind fun x105 =>
 some (0, [x105], r96.2.2)) (
 some (0, [(v97 1)], r96.2.2)) : Option (Nat × List V × VH))).bind fun r108 =>
 inN r108.1 [
 gotV 1 r108.2.1 fun v109 =>
 some ((.tup [(v109 0), (.bool true)]), r108.2.2)]]] := (callV_eq vb _ _ _ rfl).trans (by kernel_rfl)
noncomputable def spec_BoxesValid_l7 : List V -> VH -> Option (Option Nat × List V × VH) := roundV (vb.ctx cv lpW') (vb.b.ann 112) (vb.takes 112) ⟨⟨[0, 3, 4], [], []⟩, [(.exit 2, ⟨[0, 3], [], []⟩), (.ret, ⟨[2], [], []⟩)]⟩ (loopIn Tryz.f112 7)
noncomputable def spec_BoxesValid_l2 : List V -> VH -> Option (Option Nat × List V × VH) := roundV (vb.ctx cv lpW') (vb.b.ann 112) (vb.takes 112) ⟨⟨[0, 3], [], []⟩, [(.exit 0, ⟨[0], [], []⟩), (.ret, ⟨[2], [], []⟩)]⟩ (loopIn Tryz.f112 2)
theorem spec_BoxesValid_l7_eq (v0 v1 v2 : V) (H : VH) : spec_BoxesValid_l7 [v0, v1, v2] H =
 (vIdxV 2 (strip v0) v1).bind fun x67 =>
 (vOffV x67 1).bind fun x68 =>
 (ldO globB false false 1 x68 H).bind fun r70 =>
 (vLenVV r70.1).bind fun x71 =>
 (vBinV (.int .i64) .lss v2 x71).bind fun x72 =>
 ifVV x72 (
 (vIdxV 2 (strip v0) (strip v1)).bind fun x75 =>
 (vOffV x75 1).bind fun x76 =>
 (ldO globB false false 1 x76 r70.2).bind fun r78 =>
 (vIdxV 3 r78.1 (strip v2)).bind fun x80 =>
 (ldO globB false true 3 x80 r78.2).bind fun r82 =>
 (qc id_spec_MailValid [(frz r82.2 r82.1)]).bind fun x83 =>
 (vUnV .not x83).bind fun x84 =>
 ifVV x84 (
 some (some 1, [(.bool false)], r82.2)) (
 (vBinV (.int .i64) .add (strip (strip v2)) (.int .i64 1)).bind fun x87 =>
 some (none, [v0, (strip (strip v1)), x87], r82.2))) (
 some (some 0, [v0, (strip v1)], r70.2)) := by kernel_rfl
theorem spec_BoxesValid_l2_eq (v0 v1 : V) (H : VH) : spec_BoxesValid_l2 [v0, v1] H =
 (id (
 (vLenVV (strip v0)).bind fun x4 =>
 (vBinV (.int .i64) .lss v1 x4).bind fun x5 =>
 ifGV x5 (
 (vBinV (.int .i64) .leq (strip v1) (.int .i64 8)).bind fun x8 =>
 ifVV x8 (
 some (0, [v0, (strip (strip v1))], H)) (
 some (1, [v0], H))) (
 some (1, [v0], H)) : Option (Nat × List V × VH))).bind fun r11 =>
 inN r11.1 [
 gotV 2 r11.2.1 fun v12 =>
 (id (
 (id (
 (vIdxV 2 (strip (v12 0)) (v12 1)).bind fun x15 =>
 (vOffV x15 0).bind fun x16 =>
 (ldO globB false false 1 x16 r11.2.2).bind fun r18 =>
 (qc id_spec_l10Box [(frz r18.2 r18.1)]).bind fun x19 =>
 (vUnV .not x19).bind fun x20 =>
 ifGV x20 (
 some (0, [(.bool false)], r18.2)) (
 (vIdxV 2 (strip (v12 0)) (strip (v12 1))).bind fun x28 =>
 (vOffV x28 1).bind fun x29 =>
 (ldO globB false false 1 x29 r18.2).bind fun r31 =>
 (vLenVV r31.1).bind fun x32 =>
 (vBinV (.int .i64) .gtr x32 (.int .i64 4)).bind fun x33 =>
 ifGV x33 (
 some (0, [(.bool false)], r31.2)) (
 (vBinV (.int .i64) .gtr (strip (strip (v12 1))) (.int .i64 0)).bind fun x39 =>
 ifGV x39 (
 (vBinV (.int .i64) .sub (strip (strip (strip (v12 1)))) (.int .i64 1)).bind fun x43 =>
 (vIdxV 2 (strip (v12 0)) x43).bind fun x44 =>
 (vOffV x44 0).bind fun x45 =>
 (ldO globB false false 1 x45 r31.2).bind fun r47 =>
 (vIdxV 2 (strip (v12 0)) (strip (strip (strip (strip (v12 1)))))).bind fun x50 =>
 (vOffV x50 0).bind fun x51 =>
 (ldO globB false false 1 x51 r47.2).bind fun r53 =>
 (vBinV .str .geq r47.1 r53.1).bind fun x54 =>
 ifVV x54 (
 some (0, [(.bool false)], r53.2)) (
 some (1, [(v12 0), (strip (strip (strip (strip (strip (v12 1))))))], r53.2))) (
 some (1, [(v12 0), (strip (strip (strip (v12 1))))], r31.2)))) : Option (Nat × List V × VH))).bind fun r60 =>
 inN r60.1 [
 gotV 1 r60.2.1 fun v61 =>
 some (0, [(v61 0)], r60.2.2),
 gotV 2 r60.2.1 fun v62 =>
 (lpW' spec_BoxesValid_l7 [(v62 0), (v62 1), (.int .i64 0)] r60.2.2).bind fun r89 =>
 inN r89.1 [
 gotV 2 r89.2.1 fun v90 =>
 some (1, [(v90 0), (v90 1)], r89.2.2),
 gotV 1 r89.2.1 fun v91 =>
 some (0, [(v91 0)], r89.2.2)]] : Option (Nat × List V × VH))).bind fun r92 =>
 inN r92.1 [
 gotV 1 r92.2.1 fun v93 =>
 some (some 1, [(v93 0)], r92.2.2),
 gotV 2 r92.2.1 fun v94 =>
 (vBinV (.int .i64) .add (v94 1) (.int .i64 1)).bind fun x96 =>
 some (none, [(v94 0), x96], r92.2.2)],
 gotV 1 r11.2.1 fun v98 =>
 some (some 0, [(v98 0)], r11.2.2)] := by kernel_rfl
theorem spec_BoxesValid_eq (a0 : V) (H : VH) : cv id_spec_BoxesValid [a0] H =
 (lpW' spec_BoxesValid_l2 [a0, (.int .i64 0)] H).bind fun r99 =>
 inN r99.1 [
 gotV 1 r99.2.1 fun v100 =>
 (vLenVV (strip (v100 0))).bind fun x102 =>
 (vBinV (.int .i64) .leq x102 (.int .i64 8)).bind fun x103 =>
 some (x103, r99.2.2),
 gotV 1 r99.2.1 fun v105 =>
 some ((v105 0), r99.2.2)] := (callV_eq vb _ _ _ rfl).trans (by kernel_rfl)
theorem spec_l10Box_eq (a0 : V) (H : VH) : cv id_spec_l10Box [a0] H =
 (pc id_spec_l2Box [(frz H a0)]).bind fun x2 =>
 (vExtV x2 0).bind fun x4 =>
 (vExtV x2 1).bind fun x5 =>
 (aggNV 3 (strip x4)).bind fun c8 =>
 ifGV (strip x5) (
 (vBinV .str .add (strip (c8.getD 1 .nilp)) (.str [64])).bind fun x14 =>
 (vBinV .str .add x14 (strip (c8.getD 2 .nilp))).bind fun x17 =>
 (vBinV .str .eql x17 (strip a0)).bind fun x19 =>
 some (x19, H)) (
 some ((.bool false), H)) := (callV_eq vb _ _ _ rfl).trans (by kernel_rfl)
theorem spec_l2Box_eq (a0 : V) (H : VH) : cv id_spec_l2Box [a0] H =
 (qc id_spec_l2Cut [(frz H a0), (frz H (.int .u8 64))]).bind fun x3 =>
 (vExtV x3 0).bind fun x5 =>
 (vExtV x3 1).bind fun x6 =>
 (vExtV x3 2).bind fun x7 =>
 (qc id_spec_LowerText [(frz H (strip x6))]).bind fun x13 =>
 (vOneV (strip x5)).bind fun y15 =>
 (vOneV x13).bind fun y16 =>
 ifGV (strip x7) (
 (qc id_spec_AddressValid [(frz H (.agg [(.str []), (strip y15), (strip y16)]))]).bind fun x23 =>
 some ((.tup [(.agg [(.str []), (strip y15), (strip y16)]), x23]), H)) (
 some ((.tup [(.agg [(.str []), (strip y15), (strip y16)]), (.bool false)]), H)) := (callV_eq vb _ _ _ rfl).trans (by kernel_rfl)
noncomputable def spec_l2Cut_l2 : List V -> VH -> Option (Option Nat × List V × VH) := roundV (vb.ctx cv lpW') (vb.b.ann 177) (vb.takes 177) ⟨⟨[0, 1, 7], [], []⟩, [(.exit 0, ⟨[0], [], []⟩), (.ret, ⟨[4, 5, 6], [], []⟩)]⟩ (loopIn Tryz.f177 2)
theorem spec_l2Cut_l2_eq (v0 v1 v2 : V) (H : VH) : spec_l2Cut_l2 [v0, v1, v2] H =
 (vLenSV v0).bind fun x6 =>
 (vBinV (.int .i64) .lss v2 x6).bind fun x7 =>
 ifVV x7 (
 (vIndexSV (strip v0) (strip v2)).bind fun x10 =>
 (vBinV (.int .u8) .eql x10 (.int .u8 34)).bind fun x11 =>
 ifVV x11 (
 (qc id_spec_l1Read [(frz H (strip (strip v0))), (frz H (strip (strip v2)))]).bind fun x14 =>
 (vExtV x14 0).bind fun x16 =>
 (vExtV x14 1).bind fun x17 =>
 (vBinV (.int .i64) .lss (strip x17) (.int .i64 0)).bind fun x21 =>
 ifVV x21 (
 some (some 1, [(strip (strip (strip v0))), (.str []), (.bool false)], H)) (
 some (none, [(strip (strip (strip v0))), v1, (strip (strip x17))], H))) (
 (vIndexSV (strip (strip v0)) (strip (strip v2))).bind fun x30 =>
 (vBinV (.int .u8) .eql x30 v1).bind fun x32 =>
 ifVV x32 (
 (vSliceSV (strip (strip (strip v0))) none (some (strip (strip (strip v2))))).bind fun x35 =>
 (vBinV (.int .i64) .add (strip (strip (strip (strip v2)))) (.int .i64 1)).bind fun x38 =>
 (vSliceSV (strip (strip (strip (strip v0)))) (some x38) none).bind fun x39 =>
 some (some 1, [x35, x39, (.bool true)], H)) (
 (vBinV (.int .i64) .add (strip (strip (strip v2))) (.int .i64 1)).bind fun x44 =>
 some (none, [(strip (strip (strip v0))), (strip v1), x44], H)))) (
 some (some 0, [(strip v0)], H)) := by kernel_rfl
theorem spec_l2Cut_eq (a0 a1 : V) (H : VH) : cv id_spec_l2Cut [a0, a1] H =
 (lpW' spec_l2Cut_l2 [a0, a1, (.int .i64 0)] H).bind fun r46 =>
 inN r46.1 [
 gotV 1 r46.2.1 fun v47 =>
 some ((.tup [(v47 0), (.str []), (.bool false)]), r46.2.2),
 gotV 3 r46.2.1 fun v52 =>
 some ((.tup [(v52 0), (v52 1), (v52 2)]), r46.2.2)] := (callV_eq vb _ _ _ rfl).trans (by kernel_rfl)
noncomputable def spec_l1Read_l3 : List V -> VH -> Option (Option Nat × List V × VH) := roundV (vb.ctx cv lpW') (vb.b.ann 215) (vb.takes 215) ⟨⟨[0, 6, 7], [], []⟩, [(.exit 0, ⟨[], [], []⟩), (.ret, ⟨[4, 5], [], []⟩)]⟩ (loopIn Tryz.f215 3)
theorem spec_l1Read_l3_eq (v0 v1 v2 : V) (H : VH) : spec_l1Read_l3 [v0, v1, v2] H =
 (vLenSV v0).bind fun x8 =>
 (vBinV (.int .i64) .lss v2 x8).bind fun x9 =>
 ifVV x9 (
 (id (
 (vIndexSV (strip v0) (strip v2)).bind fun x12 =>
 (vBinV (.int .u8) .eql x12 (.int .u8 34)).bind fun x13 =>
 ifVV x13 (
 (vBinV (.int .i64) .add (strip (strip v2)) (.int .i64 1)).bind fun x16 =>
 some (0, [v1, x16], H)) (
 (id (
 (vIndexSV (strip (strip v0)) (strip (strip v2))).bind fun x21 =>
 (vBinV (.int .u8) .eql x21 (.int .u8 92)).bind fun x22 =>
 ifVV x22 (
 (vBinV (.int .i64) .add (strip (strip (strip v2))) (.int .i64 1)).bind fun x24 =>
 (vLenSV (strip (strip (strip v0)))).bind fun x28 =>
 (vBinV (.int .i64) .eql x24 x28).bind fun x29 =>
 ifVV x29 (
 some (0, [(.str []), (.int .i64 (-1))], H)) (
 some (1, [(strip (strip (strip (strip v0)))), v1, (strip x24)], H))) (
 some (1, [(strip (strip (strip v0))), v1, (strip (strip (strip v2)))], H)) : Option (Nat × List V × VH))).bind fun r32 =>
 inN r32.1 [
 gotV 2 r32.2.1 fun v33 =>
 some (0, [(v33 0), (v33 1)], r32.2.2),
 gotV 3 r32.2.1 fun v34 =>
 (vBinV (.int .i64) .add (strip (v34 2)) (.int .i64 1)).bind fun x39 =>
 (vSliceSV (v34 0) (some (v34 2)) (some x39)).bind fun x40 =>
 (vBinV .str .add (v34 1) x40).bind fun x41 =>
 some (1, [(strip (v34 0)), x41, (strip (strip (v34 2)))], r32.2.2)]) : Option (Nat × List V × VH))).bind fun r43 =>
 inN r43.1 [
 gotV 2 r43.2.1 fun v44 =>
 some (some 1, [(v44 0), (v44 1)], r43.2.2),
 gotV 3 r43.2.1 fun v45 =>
 (vBinV (.int .i64) .add (v45 2) (.int .i64 1)).bind fun x47 =>
 some (none, [(v45 0), (v45 1), x47], r43.2.2)]) (
 some (some 0, [], H)) := by kernel_rfl
theorem spec_l1Read_eq (a0 a1 : V) (H : VH) : cv id_spec_l1Read [a0, a1] H =
 (vBinV (.int .i64) .add a1 (.int .i64 1)).bind fun x4 =>
 (lpW' spec_l1Read_l3 [a0, (.str []), x4] H).bind fun r49 =>
 inN r49.1 [
 gotV 0 r49.2.1 fun v50 =>
 some ((.tup [(.str []), (.int .i64 (-1))]), r49.2.2),
 gotV 2 r49.2.1 fun v53 =>
 some ((.tup [(v53 0), (v53 1)]), r49.2.2)] := (callV_eq vb _ _ _ rfl).trans (by kernel_rfl)
noncomputable def spec_LowerText_l3 : List V -> VH -> Option (Option Nat × List V × VH) := roundV (vb.ctx cv lpW') (vb.b.ann 172) (vb.takes 172) ⟨⟨[3, 4], [], []⟩, [(.exit 0, ⟨[3], [], []⟩)]⟩ (loopIn Tryz.f172 3)
theorem spec_LowerText_l3_eq (v0 v1 : V) (H : VH) : spec_LowerText_l3 [v0, v1] H =
 (vLenVV (strip v0)).bind fun x7 =>
 (vBinV (.int .i64) .lss v1 x7).bind fun x8 =>
 ifVV x8 (
 (id (
 (vIdxV 1 (strip v0) (strip v1)).bind fun x11 =>
 (ldO globB false false 1 x11 H).bind fun r13 =>
 (vBinV (.int .u8) .geq r13.1 (.int .u8 65)).bind fun x14 =>
 ifGV x14 (
 (vIdxV 1 (strip v0) (strip (strip v1))).bind fun x18 =>
 (ldO globB false false 1 x18 r13.2).bind fun r20 =>
 (vBinV (.int .u8) .leq r20.1 (.int .u8 90)).bind fun x21 =>
 ifVV x21 (
 (vIdxV 1 (strip v0) (strip (strip (strip (strip v1))))).bind fun x27 =>
 (ldO globB false false 1 x27 r20.2).bind fun r29 =>
 (vBinV (.int .u8) .add r29.1 (.int .u8 32)).bind fun x30 =>
 (vIdxV 1 (strip v0) (strip (strip (strip v1)))).bind fun x31 =>
 (vOneV x30).bind fun y33 =>
 (stO x31 [y33] r29.2).bind fun H34 =>
 some (0, [v0, (strip (strip (strip (strip (strip v1)))))], H34)) (
 some (0, [v0, (strip (strip (strip v1)))], r20.2))) (
 some (0, [v0, (strip (strip v1))], r13.2)) : Option (Nat × List V × VH))).bind fun r36 =>
 inN r36.1 [
 gotV 2 r36.2.1 fun v37 =>
 (vBinV (.int .i64) .add (v37 1) (.int .i64 1)).bind fun x39 =>
 some (none, [(v37 0), x39], r36.2.2)]) (
 some (some 0, [v0], H)) := by kernel_rfl
theorem spec_LowerText_eq (a0 : V) (H : VH) : cv id_spec_LowerText [a0] H =
 (s2bV a0).bind fun x2 =>
 (lpW' spec_LowerText_l3 [(.obs H.length 0 x2.length 1), (.int .i64 0)] (H ++ [x2])).bind fun r41 =>
 inN r41.1 [
 gotV 1 r41.2.1 fun v42 =>
 (b2sV (strip (v42 0)) r41.2.2).bind fun x44 =>
 some (x44, r41.2.2)] := (callV_eq vb _ _ _ rfl).trans (by kernel_rfl)
theorem spec_AddressValid_eq (a0 : V) (H : VH) : cv id_spec_AddressValid [a0] H =
 (aggNV 3 a0).bind fun c1 =>
 (qc id_spec_l2Name [(frz H (strip (c1.getD 0 .nilp)))]).bind fun x5 =>
 ifGV x5 (
 (vLenSV (strip (c1.getD 1 .nilp))).bind fun x9 =>
 (vBinV (.int .i64) .leq x9 (.int .i64 30)).bind fun x10 =>
 ifGV x10 (
 (qc id_spec_l2Local [(frz H (strip (c1.getD 1 .nilp)))]).bind fun x15 =>
 ifGV x15 (
 (vLenSV (strip (c1.getD 2 .nilp))).bind fun x20 =>
 (vBinV (.int .i64) .leq x20 (.int .i64 40)).bind fun x21 =>
 ifGV x21 (
 (qc id_spec_l2Domain [(frz H (strip (c1.getD 2 .nilp)))]).bind fun x26 =>
 some (x26, H)) (
 some ((.bool false), H))) (
 some ((.bool false), H))) (
 some ((.bool false), H))) (
 some ((.bool false), H)) := (callV_eq vb _ _ _ rfl).trans (by kernel_rfl)
theorem spec_l2Name_eq (a0 : V) (H : VH) : cv id_spec_l2Name [a0] H =
 (qc id_spec_TextValid [(frz H a0)]).bind fun x2 =>
 ifGV x2 (
 (vLenSV (strip a0)).bind fun x5 =>
 (vBinV (.int .i64) .leq x5 (.int .i64 40)).bind fun x6 =>
 some (x6, H)) (
 some ((.bool false), H)) := (callV_eq vb _ _ _ rfl).trans (by kernel_rfl)
noncomputable def spec_TextValid_l2 : List V -> VH -> Option (Option Nat × List V × VH) := roundV (vb.ctx cv lpW') (vb.b.ann 70) (vb.takes 70) ⟨⟨[0, 3], [], []⟩, [(.exit 0, ⟨[0], [], []⟩), (.ret, ⟨[2], [], []⟩)]⟩ (loopIn Tryz.f70 2)
theorem spec_TextValid_l2_eq (v0 v1 : V) (H : VH) : spec_TextValid_l2 [v0, v1] H =
 (id (
 (vLenSV v0).bind fun x4 =>
 (vBinV (.int .i64) .lss v1 x4).bind fun x5 =>
 ifGV x5 (
 (vBinV (.int .i64) .leq (strip v1) (.int .i64 200)).bind fun x8 =>
 ifVV x8 (
 some (0, [(strip v0), (strip (strip v1))], H)) (
 some (1, [(strip v0)], H))) (
 some (1, [(strip v0)], H)) : Option (Nat × List V × VH))).bind fun r11 =>
 inN r11.1 [
 gotV 2 r11.2.1 fun v12 =>
 (id (
 (vIndexSV (v12 0) (v12 1)).bind fun x15 =>
 (vBinV (.int .u8) .lss x15 (.int .u8 32)).bind fun x16 =>
 ifGV x16 (
 some (0, [(.bool false)], r11.2.2)) (
 (vIndexSV (strip (v12 0)) (strip (v12 1))).bind fun x22 =>
 (vBinV (.int .u8) .gtr x22 (.int .u8 126)).bind fun x23 =>
 ifVV x23 (
 some (0, [(.bool false)], r11.2.2)) (
 some (1, [(strip (strip (v12 0))), (strip (strip (v12 1)))], r11.2.2))) : Option (Nat × List V × VH))).bind fun r26 =>
 inN r26.1 [
 gotV 1 r26.2.1 fun v27 =>
 some (some 1, [(v27 0)], r26.2.2),
 gotV 2 r26.2.1 fun v28 =>
 (vBinV (.int .i64) .add (v28 1) (.int .i64 1)).bind fun x30 =>
 some (none, [(v28 0), x30], r26.2.2)],
 gotV 1 r11.2.1 fun v32 =>
 some (some 0, [(v32 0)], r11.2.2)] := by kernel_rfl
theorem spec_TextValid_eq (a0 : V) (H : VH) : cv id_spec_TextValid [a0] H =
 (lpW' spec_TextValid_l2 [a0, (.int .i64 0)] H).bind fun r33 =>
 inN r33.1 [
 gotV 1 r33.2.1 fun v34 =>
 (vLenSV (v34 0)).bind fun x36 =>
 (vBinV (.int .i64) .leq x36 (.int .i64 200)).bind fun x37 =>
 some (x37, r33.2.2),
 gotV 1 r33.2.1 fun v39 =>
 some ((v39 0), r33.2.2)] := (callV_eq vb _ _ _ rfl).trans (by kernel_rfl)
noncomputable def spec_l2Local_l3 : List V -> VH -> Option (Option Nat × List V × VH) := roundV (vb.ctx cv lpW') (vb.b.ann 217) (vb.takes 217) ⟨⟨[0, 3, 4], [], []⟩, [(.exit 0, ⟨[0], [], []⟩), (.ret, ⟨[2], [], []⟩)]⟩ (loopIn Tryz.f217 3)
theorem spec_l2Local_l3_eq (v0 v1 v2 : V) (H : VH) : spec_l2Local_l3 [v0, v1, v2] H =
 (vLenVV (strip v1)).bind fun x7 =>
 (vBinV (.int .i64) .lss v2 x7).bind fun x8 =>
 ifVV x8 (
 (vIdxV 1 (strip v1) (strip v2)).bind fun x11 =>
 (ldO globB false false 1 x11 H).bind fun r13 =>
 (qc id_spec_AtomValid [(frz r13.2 r13.1)]).bind fun x14 =>
 (vUnV .not x14).bind fun x15 =>
 ifVV x15 (
 some (some 1, [(.bool false)], r13.2)) (
 (vBinV (.int .i64) .add (strip (strip v2)) (.int .i64 1)).bind fun x18 =>
 some (none, [v0, v1, x18], r13.2))) (
 some (some 0, [v0], H)) := by kernel_rfl
theorem spec_l2Local_eq (a0 : V) (H : VH) : cv id_spec_l2Local [a0] H =
 (pc id_spec_l2Parts [(frz H a0), (frz H (.int .u8 46))]).bind fun x2 =>
 (lpW' spec_l2Local_l3 [(strip a0), (strip x2), (.int .i64 0)] H).bind fun r20 =>
 inN r20.1 [
 gotV 1 r20.2.1 fun v21 =>
 (vLenSV (v21 0)).bind fun x23 =>
 (vBinV (.int .i64) .leq x23 (.int .i64 30)).bind fun x24 =>
 some (x24, r20.2.2),
 gotV 1 r20.2.1 fun v26 =>
 some ((v26 0), r20.2.2)] := (callV_eq vb _ _ _ rfl).trans (by kernel_rfl)
noncomputable def spec_l2Parts_l4 : List V -> VH -> Option (Option Nat × List V × VH) := roundV (vb.ctx cv lpW') (vb.b.ann 88) (vb.takes 88) ⟨⟨[0, 1, 5, 6, 7], [], []⟩, [(.exit 0, ⟨[0, 5, 6], [], []⟩)]⟩ (loopIn Tryz.f88 4)
theorem spec_l2Parts_l4_eq (v0 v1 v2 v3 v4 : V) (H : VH) : spec_l2Parts_l4 [v0, v1, v2, v3, v4] H =
 (vLenSV v0).bind fun x7 =>
 (vBinV (.int .i64) .lss v4 x7).bind fun x8 =>
 ifVV x8 (
 (id (
 (vIndexSV (strip v0) (strip v4)).bind fun x11 =>
 (vBinV (.int .u8) .eql x11 v1).bind fun x13 =>
 ifVV x13 (
 (vSliceSV (strip (strip v0)) (some v3) (some (strip (strip v4)))).bind fun x18 =>
 (vOneV x18).bind fun y20 =>
 (ownV v2).bind fun s22 =>
 (appV false 1 16 s22 (.sl true [[y20]])).bind fun x21 =>
 (vBinV (.int .i64) .add (strip (strip (strip v4))) (.int .i64 1)).bind fun x25 =>
 some (0, [(strip (strip (strip v0))), (strip v1), x21, x25, (strip (strip (strip (strip v4))))], H)) (
 some (0, [(strip (strip v0)), (strip v1), v2, v3, (strip (strip v4))], H)) : Option (Nat × List V × VH))).bind fun r27 =>
 inN r27.1 [
 gotV 5 r27.2.1 fun v28 =>
 (vBinV (.int .i64) .add (v28 4) (.int .i64 1)).bind fun x30 =>
 some (none, [(v28 0), (v28 1), (v28 2), (v28 3), x30], r27.2.2)]) (
 some (some 0, [(strip v0), v2, v3], H)) := by kernel_rfl
theorem spec_l2Parts_eq (a0 a1 : V) (H : VH) : cv id_spec_l2Parts [a0, a1] H =
 (lpW' spec_l2Parts_l4 [a0, a1, (.sl true []), (.int .i64 0), (.int .i64 0)] H).bind fun r32 =>
 inN r32.1 [
 gotV 3 r32.2.1 fun v33 =>
 (vSliceSV (v33 0) (some (v33 2)) none).bind fun x37 =>
 (vOneV x37).bind fun y39 =>
 (ownV (v33 1)).bind fun s41 =>
 (appV false 1 16 s41 (.sl true [[y39]])).bind fun x40 =>
 some (x40, r32.2.2)] := (callV_eq vb _ _ _ rfl).trans (by kernel_rfl)
noncomputable def spec_AtomValid_l2 : List V -> VH -> Option (Option Nat × List V × VH) := roundV (vb.ctx cv lpW') (vb.b.ann 237) (vb.takes 237) ⟨⟨[0, 3], [], []⟩, [(.exit 0, ⟨[0], [], []⟩), (.ret, ⟨[2], [], []⟩)]⟩ (loopIn Tryz.f237 2)
theorem spec_AtomValid_l2_eq (v0 v1 : V) (H : VH) : spec_AtomValid_l2 [v0, v1] H =
 (id (
 (vLenSV v0).bind fun x4 =>
 (vBinV (.int .i64) .lss v1 x4).bind fun x5 =>
 ifGV x5 (
 (vBinV (.int .i64) .leq (strip v1) (.int .i64 40)).bind fun x8 =>
 ifVV x8 (
 some (0, [(strip v0), (strip (strip v1))], H)) (
 some (1, [(strip v0)], H))) (
 some (1, [(strip v0)], H)) : Option (Nat × List V × VH))).bind fun r11 =>
 inN r11.1 [
 gotV 2 r11.2.1 fun v12 =>
 (vIndexSV (v12 0) (v12 1)).bind fun x15 =>
 (qc id_spec_l1Atom [(frz r11.2.2 x15)]).bind fun x16 =>
 (vUnV .not x16).bind fun x17 =>
 ifVV x17 (
 some (some 1, [(.bool false)], r11.2.2)) (
 (vBinV (.int .i64) .add (strip (v12 1)) (.int .i64 1)).bind fun x20 =>
 some (none, [(strip (v12 0)), x20], r11.2.2)),
 gotV 1 r11.2.1 fun v22 =>
 some (some 0, [(v22 0)], r11.2.2)] := by kernel_rfl
theorem spec_AtomValid_eq (a0 : V) (H : VH) : cv id_spec_AtomValid [a0] H =
 (lpW' spec_AtomValid_l2 [a0, (.int .i64 0)] H).bind fun r23 =>
 inN r23.1 [
 gotV 1 r23.2.1 fun v24 =>
 (vLenSV (v24 0)).bind fun x26 =>
 (vBinV (.int .i64) .geq x26 (.int .i64 1)).bind fun x27 =>
 ifGV x27 (
 (vLenSV (strip (v24 0))).bind fun x30 =>
 (vBinV (.int .i64) .leq x30 (.int .i64 40)).bind fun x31 =>
 some (x31, r23.2.2)) (
 some ((.bool false), r23.2.2)),
 gotV 1 r23.2.1 fun v36 =>
 some ((v36 0), r23.2.2)] := (callV_eq vb _ _ _ rfl).trans (by kernel_rfl)
noncomputable def spec_l1Atom_l2 : List V -> VH -> Option (Option Nat × List V × VH) := roundV (vb.ctx cv lpW') (vb.b.ann 249) (vb.takes 249) ⟨⟨[0, 3], [], []⟩, [(.exit 0, ⟨[0], [], []⟩), (.ret, ⟨[2], [], []⟩)]⟩ (loopIn Tryz.f249 2)
theorem spec_l1Atom_l2_eq (v0 v1 : V) (H : VH) : spec_l1Atom_l2 [v0, v1] H =
 (vBinV (.int .i64) .lss v1 (.int .i64 19)).bind fun x3 =>
 ifVV x3 (
 (vIndexSV (.str [33, 35, 36, 37, 38, 39, 42, 43, 45, 47, 61, 63, 94, 95, 96, 123, 124, 125, 126]) (strip v1)).bind fun x6 =>
 (vBinV (.int .u8) .eql v0 x6).bind fun x7 =>
 ifVV x7 (
 some (some 1, [(.bool true)], H)) (
 (vBinV (.int .i64) .add (strip (strip v1)) (.int .i64 1)).bind fun x10 =>
 some (none, [(strip v0), x10], H))) (
 some (some 0, [v0], H)) := by kernel_rfl
theorem spec_l1Atom_eq (a0 : V) (H : VH) : cv id_spec_l1Atom [a0] H =
 (lpW' spec_l1Atom_l2 [a0, (.int .i64 0)] H).bind fun r12 =>
 inN r12.1 [
 gotV 1 r12.2.1 fun v13 =>
 (qc id_spec_l1Letter [(frz r12.2.2 (v13 0))]).bind fun x15 =>
 some (x15, r12.2.2),
 gotV 1 r12.2.1 fun v17 =>
 some ((v17 0), r12.2.2)] := (callV_eq vb _ _ _ rfl).trans (by kernel_rfl)
theorem spec_l1Letter_eq (a0 : V) (H : VH) : cv id_spec_l1Letter [a0] H =
 (vBinV (.int .u8) .geq a0 (.int .u8 97)).bind fun x2 =>
 ifGV x2 (
 (vBinV (.int .u8) .leq (strip a0) (.int .u8 122)).bind fun x5 =>
 ifGV x5 (
 some ((.bool true), H)) (
 (vBinV (.int .u8) .geq (strip (strip a0)) (.int .u8 65)).bind fun x13 =>
 ifGV x13 (
 (vBinV (.int .u8) .leq (strip (strip (strip a0))) (.int .u8 90)).bind fun x16 =>
 ifGV x16 (
 some ((.bool true), H)) (
 (vBinV (.int .u8) .geq (strip (strip (strip (strip a0)))) (.int .u8 48)).bind fun x23 =>
 ifGV x23 (
 (vBinV (.int .u8) .leq (strip (strip (strip (strip (strip a0))))) (.int .u8 57)).bind fun x26 =>
 some (x26, H)) (
 some ((.bool false), H)))) (
 (vBinV (.int .u8) .geq (strip (strip (strip a0))) (.int .u8 48)).bind fun x37 =>
 ifGV x37 (
 (vBinV (.int .u8) .leq (strip (strip (strip (strip a0)))) (.int .u8 57)).bind fun x40 =>
 some (x40, H)) (
 some ((.bool false), H))))) (
 (vBinV (.int .u8) .geq (strip a0) (.int .u8 65)).bind fun x50 =>
 ifGV x50 (
 (vBinV (.int .u8) .leq (strip (strip a0)) (.int .u8 90)).bind fun x53 =>
 ifGV x53 (
 some ((.bool true), H)) (
 (vBinV (.int .u8) .geq (strip (strip (strip a0))) (.int .u8 48)).bind fun x60 =>
 ifGV x60 (
 (vBinV (.int .u8) .leq (strip (strip (strip (strip a0)))) (.int .u8 57)).bind fun x63 =>
 some (x63, H)) (
 some ((.bool false), H)))) (
 (vBinV (.int .u8) .geq (strip (strip a0)) (.int .u8 48)).bind fun x74 =>
 ifGV x74 (
 (vBinV (.int .u8) .leq (strip (strip (strip a0))) (.int .u8 57)).bind fun x77 =>
 some (x77, H)) (
 some ((.bool false), H)))) := (callV_eq vb _ _ _ rfl).trans (by kernel_rfl)
noncomputable def spec_l2Domain_l9 : List V -> VH -> Option (Option Nat × List V × VH) := roundV (vb.ctx cv lpW') (vb.b.ann 42) (vb.takes 42) ⟨⟨[0, 3, 4, 5, 6], [], []⟩, [(.exit 2, ⟨[0, 3, 4], [], []⟩), (.ret, ⟨[2], [], []⟩)]⟩ (loopIn Tryz.f42 9)
noncomputable def spec_l2Domain_l3 : List V -> VH -> Option (Option Nat × List V × VH) := roundV (vb.ctx cv lpW') (vb.b.ann 42) (vb.takes 42) ⟨⟨[0, 3, 4], [], []⟩, [(.exit 0, ⟨[0], [], []⟩), (.ret, ⟨[2], [], []⟩)]⟩ (loopIn Tryz.f42 3)
theorem spec_l2Domain_l9_eq (v0 v1 v2 v3 v4 : V) (H : VH) : spec_l2Domain_l9 [v0, v1, v2, v3, v4] H =
 (vLenSV v3).bind fun x43 =>
 (vBinV (.int .i64) .lss v4 x43).bind fun x44 =>
 ifVV x44 (
 (id (
 (vIndexSV (strip v3) (strip v4)).bind fun x47 =>
 (qc id_spec_l1Letter [(frz H x47)]).bind fun x48 =>
 (vUnV .not x48).bind fun x49 =>
 ifGV x49 (
 (vIndexSV (strip (strip v3)) (strip (strip v4))).bind fun x53 =>
 (vBinV (.int .u8) .neq x53 (.int .u8 45)).bind fun x54 =>
 ifGV x54 (
 some (0, [(.bool false)], H)) (
 (vIndexSV (strip (strip (strip v3))) (strip (strip (strip v4)))).bind fun x61 =>
 (vBinV (.int .u8) .geq x61 (.int .u8 65)).bind fun x62 =>
 ifGV x62 (
 (vIndexSV (strip (strip (strip (strip v3)))) (strip (strip (strip (strip v4))))).bind fun x66 =>
 (vBinV (.int .u8) .leq x66 (.int .u8 90)).bind fun x67 =>
 ifVV x67 (
 some (0, [(.bool false)], H)) (
 some (1, [v0, v1, v2, (strip (strip (strip (strip (strip v3))))), (strip (strip (strip (strip (strip v4)))))], H))) (
 some (1, [v0, v1, v2, (strip (strip (strip (strip v3)))), (strip (strip (strip (strip v4))))], H)))) (
 (vIndexSV (strip (strip v3)) (strip (strip v4))).bind fun x77 =>
 (vBinV (.int .u8) .geq x77 (.int .u8 65)).bind fun x78 =>
 ifGV x78 (
 (vIndexSV (strip (strip (strip v3))) (strip (strip (strip v4)))).bind fun x82 =>
 (vBinV (.int .u8) .leq x82 (.int .u8 90)).bind fun x83 =>
 ifVV x83 (
 some (0, [(.bool false)], H)) (
 some (1, [v0, v1, v2, (strip (strip (strip (strip v3)))), (strip (strip (strip (strip v4))))], H))) (
 some (1, [v0, v1, v2, (strip (strip (strip v3))), (strip (strip (strip v4)))], H))) : Option (Nat × List V × VH))).bind fun r89 =>
 inN r89.1 [
 gotV 1 r89.2.1 fun v90 =>
 some (some 1, [(v90 0)], r89.2.2),
 gotV 5 r89.2.1 fun v91 =>
 (vBinV (.int .i64) .add (v91 4) (.int .i64 1)).bind fun x93 =>
 some (none, [(v91 0), (v91 1), (v91 2), (v91 3), x93], r89.2.2)]) (
 some (some 0, [v0, v1, v2], H)) := by kernel_rfl
theorem spec_l2Domain_l3_eq (v0 v1 v2 : V) (H : VH) : spec_l2Domain_l3 [v0, v1, v2] H =
 (vLenVV (strip v1)).bind fun x7 =>
 (vBinV (.int .i64) .lss v2 x7).bind fun x8 =>
 ifVV x8 (
 (id (
 (vIdxV 1 (strip v1) (strip v2)).bind fun x11 =>
 (ldO globB false false 1 x11 H).bind fun r13 =>
 (id (
 (vBinV .str .eql r13.1 (.str [])).bind fun x16 =>
 ifGV x16 (
 some (0, [(.bool false)], r13.2)) (
 (vIndexSV (strip r13.1) (.int .i64 0)).bind fun x23 =>
 (vBinV (.int .u8) .eql x23 (.int .u8 45)).bind fun x24 =>
 ifGV x24 (
 some (0, [(.bool false)], r13.2)) (
 (vLenSV (strip (strip (strip r13.1)))).bind fun x31 =>
 (vBinV (.int .i64) .sub x31 (.int .i64 1)).bind fun x32 =>
 (vIndexSV (strip (strip r13.1)) x32).bind fun x33 =>
 (vBinV (.int .u8) .eql x33 (.int .u8 45)).bind fun x34 =>
 ifVV x34 (
 some (0, [(.bool false)], r13.2)) (
 some (1, [v0, v1, (strip (strip v2)), (strip (strip (strip (strip r13.1))))], r13.2)))) : Option (Nat × List V × VH))).bind fun r37 =>
 inN r37.1 [
 gotV 1 r37.2.1 fun v38 =>
 some (0, [(v38 0)], r37.2.2),
 gotV 4 r37.2.1 fun v39 =>
 (lpW' spec_l2Domain_l9 [(v39 0), (v39 1), (v39 2), (v39 3), (.int .i64 0)] r37.2.2).bind fun r95 =>
 inN r95.1 [
 gotV 3 r95.2.1 fun v96 =>
 some (1, [(v96 0), (v96 1), (v96 2)], r95.2.2),
 gotV 1 r95.2.1 fun v97 =>
 some (0, [(v97 0)], r95.2.2)]] : Option (Nat × List V × VH))).bind fun r98 =>
 inN r98.1 [
 gotV 1 r98.2.1 fun v99 =>
 some (some 1, [(v99 0)], r98.2.2),
 gotV 3 r98.2.1 fun v100 =>
 (vBinV (.int .i64) .add (v100 2) (.int .i64 1)).bind fun x102 =>
 some (none, [(v100 0), (v100 1), x102], r98.2.2)]) (
 some (some 0, [v0], H)) := by kernel_rfl
theorem spec_l2Domain_eq (a0 : V) (H : VH) : cv id_spec_l2Domain [a0] H =
 (pc id_spec_l2Parts [(frz H a0), (frz H (.int .u8 46))]).bind fun x2 =>
 (lpW' spec_l2Domain_l3 [(strip a0), (strip x2), (.int .i64 0)] H).bind fun r104 =>
 inN r104.1 [
 gotV 1 r104.2.1 fun v105 =>
 (vLenSV (v105 0)).bind fun x107 =>
 (vBinV (.int .i64) .leq x107 (.int .i64 40)).bind fun x108 =>
 some (x108, r104.2.2),
 gotV 1 r104.2.1 fun v110 =>
 some ((v110 0), r104.2.2)] := (callV_eq vb _ _ _ rfl).trans (by kernel_rfl)
theorem spec_MailValid_eq (a0 : V) (H : VH) : cv id_spec_MailValid [a0] H =
 (aggNV 3 a0).bind fun c1 =>
 (qc id_spec_l10Draft [(frz H (.agg [(strip (c1.getD 0 .nilp)), (strip (c1.getD 1 .nilp)), (strip (c1.getD 2 .nilp))]))]).bind fun x4 =>
 ifGV x4 (
 (vLenVV (strip (c1.getD 1 .nilp))).bind fun x8 =>
 (vBinV (.int .i64) .gtr x8 (.int .i64 0)).bind fun x9 =>
 ifGV x9 (
 (vLenVV (strip (c1.getD 2 .nilp))).bind fun x14 =>
 (vBinV (.int .i64) .leq x14 (.int .i64 30)).bind fun x15 =>
 some (x15, H)) (
 some ((.bool false), H))) (
 some ((.bool false), H)) := (callV_eq vb _ _ _ rfl).trans (by kernel_rfl)
noncomputable def spec_l10Draft_l4 : List V -> VH -> Option (Option Nat × List V × VH) := roundV (vb.ctx cv lpW') (vb.b.ann 87) (vb.takes 87) ⟨⟨[3], [(1, (1, 0))], [(1, 3)]⟩, [(.exit 0, ⟨[], [(1, (1, 0))], [(1, 3)]⟩), (.ret, ⟨[2], [], []⟩)]⟩ (loopIn Tryz.f87 4)
noncomputable def spec_l10Draft_l9 : List V -> VH -> Option (Option Nat × List V × VH) := roundV (vb.ctx cv lpW') (vb.b.ann 87) (vb.takes 87) ⟨⟨[4], [(1, (1, 0))], [(1, 3)]⟩, [(.exit 2, ⟨[], [], []⟩), (.ret, ⟨[2], [], []⟩)]⟩ (loopIn Tryz.f87 9)
theorem spec_l10Draft_l4_eq (v0 v1 v2 v3 : V) (H : VH) : spec_l10Draft_l4 [v0, v1, v2, v3] H =
 (vLenVV (strip v2)).bind fun x54 =>
 (vBinV (.int .i64) .lss v0 x54).bind fun x55 =>
 ifVV x55 (
 (vIdxV 1 (strip v2) (strip v0)).bind fun x59 =>
 (ldO globB false false 1 x59 H).bind fun r61 =>
 (qc id_spec_l10Box [(frz r61.2 r61.1)]).bind fun x62 =>
 (vUnV .not x62).bind fun x63 =>
 ifVV x63 (
 some (some 1, [(.bool false)], r61.2)) (
 (vBinV (.int .i64) .add (strip (strip v0)) (.int .i64 1)).bind fun x66 =>
 some (none, [x66, v1, v2, v3], r61.2))) (
 some (some 0, [v1, v2, v3], H)) := by kernel_rfl
theorem spec_l10Draft_l9_eq (v0 v1 v2 v3 : V) (H : VH) : spec_l10Draft_l9 [v0, v1, v2, v3] H =
 (vLenVV (strip v3)).bind fun x74 =>
 (vBinV (.int .i64) .lss v0 x74).bind fun x75 =>
 ifVV x75 (
 (vIdxV 1 (strip v3) (strip v0)).bind fun x79 =>
 (ldO globB false false 1 x79 H).bind fun r81 =>
 (qc id_spec_TextValid [(frz r81.2 r81.1)]).bind fun x82 =>
 (vUnV .not x82).bind fun x83 =>
 ifVV x83 (
 some (some 1, [(.bool false)], r81.2)) (
 (vBinV (.int .i64) .add (strip (strip v0)) (.int .i64 1)).bind fun x86 =>
 some (none, [x86, v1, v2, v3], r81.2))) (
 some (some 0, [], H)) := by kernel_rfl
theorem spec_l10Draft_eq (a0 : V) (H : VH) : cv id_spec_l10Draft [a0] H =
 (aggNV 3 a0).bind fun c1 =>
 (id (
 (vBinV .str .neq (strip (c1.getD 0 .nilp)) (.str [])).bind fun x5 =>
 ifGV x5 (
 (qc id_spec_l10Box [(frz H (strip (c1.getD 0 .nilp)))]).bind fun x9 =>
 (vUnV .not x9).bind fun x10 =>
 ifGV x10 (
 some (0, [(.bool false)], H)) (
 (vLenVV (strip (c1.getD 1 .nilp))).bind fun x19 =>
 (vBinV (.int .i64) .gtr x19 (.int .i64 10)).bind fun x20 =>
 ifGV x20 (
 some (0, [(.bool false)], H)) (
 (vLenVV (strip (c1.getD 2 .nilp))).bind fun x27 =>
 (vBinV (.int .i64) .gtr x27 (.int .i64 31)).bind fun x28 =>
 ifVV x28 (
 some (0, [(.bool false)], H)) (
 some (1, [(c1.getD 0 .nilp), (c1.getD 1 .nilp), (c1.getD 2 .nilp)], H))))) (
 (vLenVV (strip (c1.getD 1 .nilp))).bind fun x35 =>
 (vBinV (.int .i64) .gtr x35 (.int .i64 10)).bind fun x36 =>
 ifGV x36 (
 some (0, [(.bool false)], H)) (
 (vLenVV (strip (c1.getD 2 .nilp))).bind fun x43 =>
 (vBinV (.int .i64) .gtr x43 (.int .i64 31)).bind fun x44 =>
 ifVV x44 (
 some (0, [(.bool false)], H)) (
 some (1, [(c1.getD 0 .nilp), (c1.getD 1 .nilp), (c1.getD 2 .nilp)], H)))) : Option (Nat × List V × VH))).bind fun r47 =>
 inN r47.1 [
 gotV 1 r47.2.1 fun v48 =>
 some ((v48 0), r47.2.2),
 gotV 3 r47.2.1 fun v49 =>
 (lpW' spec_l10Draft_l4 [(.int .i64 0), (v49 0), (v49 1), (v49 2)] r47.2.2).bind fun r68 =>
 inN r68.1 [
 gotV 3 r68.2.1 fun v69 =>
 (lpW' spec_l10Draft_l9 [(.int .i64 0), (v69 0), (v69 1), (v69 2)] r68.2.2).bind fun r88 =>
 inN r88.1 [
 gotV 0 r88.2.1 fun v89 =>
 some ((.bool true), r88.2.2),
 gotV 1 r88.2.1 fun v91 =>
 some ((v91 0), r88.2.2)],
 gotV 1 r68.2.1 fun v92 =>
 some ((v92 0), r68.2.2)]] := (callV_eq vb _ _ _ rfl).trans (by kernel_rfl)
noncomputable def spec_l11Find_l2 : List V -> VH -> Option (Option Nat × List V × VH) := roundV (vb.ctx cv lpW') (vb.b.ann 114) (vb.takes 114) ⟨⟨[0, 1, 5], [], []⟩, [(.exit 0, ⟨[], [], []⟩), (.ret, ⟨[4], [], []⟩)]⟩ (loopIn Tryz.f114 2)
theorem spec_l11Find_l2_eq (v0 v1 v2 : V) (H : VH) : spec_l11Find_l2 [v0, v1, v2] H =
 (vLenVV (strip v0)).bind fun x4 =>
 (vBinV (.int .i64) .lss v2 x4).bind fun x5 =>
 ifVV x5 (
 (vIdxV 2 (strip v0) (strip v2)).bind fun x8 =>
 (vOffV x8 0).bind fun x9 =>
 (ldO globB false false 1 x9 H).bind fun r11 =>
 (vBinV .str .eql r11.1 v1).bind fun x13 =>
 ifVV x13 (
 some (some 1, [(strip (strip v2))], r11.2)) (
 (vBinV (.int .i64) .add (strip (strip v2)) (.int .i64 1)).bind fun x17 =>
 some (none, [v0, (strip v1), x17], r11.2))) (
 some (some 0, [], H)) := by kernel_rfl
theorem spec_l11Find_eq (a0 a1 : V) (H : VH) : cv id_spec_l11Find [a0, a1] H =
 (lpW' spec_l11Find_l2 [a0, a1, (.int .i64 0)] H).bind fun r19 =>
 inN r19.1 [
 gotV 0 r19.2.1 fun v20 =>
 some ((.int .i64 (-1)), r19.2.2),
 gotV 1 r19.2.1 fun v22 =>
 some ((v22 0), r19.2.2)] := (callV_eq vb _ _ _ rfl).trans (by kernel_rfl)
noncomputable def spec_l11Copy_l7 : List V -> VH -> Option (Option Nat × List V × VH) := roundV (vb.ctx cv lpW') (vb.b.ann 101) (vb.takes 101) ⟨⟨[0, 3, 4, 6], [(5, (5, 0))], [(5, 2)]⟩, [(.exit 2, ⟨[0, 3, 4], [(5, (5, 0))], [(5, 2)]⟩)]⟩ (loopIn Tryz.f101 7)
noncomputable def spec_l11Copy_l3 : List V -> VH -> Option (Option Nat × List V × VH) := roundV (vb.ctx cv lpW') (vb.b.ann 101) (vb.takes 101) ⟨⟨[0, 3, 4], [], []⟩, [(.exit 0, ⟨[3], [], []⟩)]⟩ (loopIn Tryz.f101 3)
theorem spec_l11Copy_l7_eq (v0 v1 v2 v3 v4 v5 : V) (H : VH) : spec_l11Copy_l7 [v0, v1, v2, v3, v4, v5] H =
 (vIdxV 2 (strip v0) v2).bind fun x22 =>
 (vOffV x22 1).bind fun x23 =>
 (ldO globB false false 1 x23 H).bind fun r25 =>
 (vLenVV r25.1).bind fun x26 =>
 (vBinV (.int .i64) .lss v3 x26).bind fun x27 =>
 ifVV x27 (
 (vIdxV 2 (strip v0) (strip v2)).bind fun x32 =>
 (vOffV x32 1).bind fun x33 =>
 (ldO globB false false 1 x33 r25.2).bind fun r35 =>
 (vIdxV 3 r35.1 (strip v3)).bind fun x37 =>
 (ldO globB false true 3 x37 r35.2).bind fun r39 =>
 (pc id_spec_l10Mail [(frz r39.2 r39.1)]).bind fun x40 =>
 (aggNV 3 x40).bind fun c42 =>
 (ownV v5).bind fun s44 =>
 (appV false 3 64 s44 (.sl true [[(c42.getD 0 .nilp), (c42.getD 1 .nilp), (c42.getD 2 .nilp)]])).bind fun x43 =>
 (vOneV x43).bind fun y47 =>
 (vBinV (.int .i64) .add (strip (strip v3)) (.int .i64 1)).bind fun x49 =>
 some (none, [v0, v1, (strip (strip v2)), x49, v4, y47], r39.2)) (
 some (some 0, [v0, v1, (strip v2), v4, v5], r25.2)) := by kernel_rfl
theorem spec_l11Copy_l3_eq (v0 v1 v2 : V) (H : VH) : spec_l11Copy_l3 [v0, v1, v2] H =
 (vLenVV (strip v0)).bind fun x6 =>
 (vBinV (.int .i64) .lss v2 x6).bind fun x7 =>
 ifVV x7 (
 (vIdxV 2 (strip v0) (strip v2)).bind fun x10 =>
 (vOffV x10 0).bind fun x11 =>
 (ldO globB false false 1 x11 H).bind fun r13 =>
 (vOneV r13.1).bind fun y15 =>
 (lpW' spec_l11Copy_l7 [v0, v1, (strip (strip v2)), (.int .i64 0), y15, (.sl true [])] r13.2).bind fun r51 =>
 inN r51.1 [
 gotV 5 r51.2.1 fun v52 =>
 (ownV (v52 1)).bind fun s57 =>
 (appV false 2 40 s57 (.sl true [[(v52 3), (v52 4)]])).bind fun x56 =>
 (vBinV (.int .i64) .add (v52 2) (.int .i64 1)).bind fun x60 =>
 some (none, [(v52 0), x56, x60], r51.2.2)]) (
 some (some 0, [v1], H)) := by kernel_rfl
theorem spec_l11Copy_eq (a0 : V) (H : VH) : cv id_spec_l11Copy [a0] H =
 (lpW' spec_l11Copy_l3 [a0, (.sl true []), (.int .i64 0)] H).bind fun r62 =>
 inN r62.1 [
 gotV 1 r62.2.1 fun v63 =>
 some ((v63 0), r62.2.2)] := (callV_eq vb _ _ _ rfl).trans (by kernel_rfl)
theorem spec_l10Mail_eq (a0 : V) (H : VH) : cv id_spec_l10Mail [a0] H =
 (aggNV 3 a0).bind fun c1 =>
 (appV false 1 16 [] (c1.getD 1 .nilp)).bind fun x8 =>
 (appV false 1 16 [] (c1.getD 2 .nilp)).bind fun x12 =>
 (vOneV (strip (c1.getD 0 .nilp))).bind fun y14 =>
 (vOneV x8).bind fun y15 =>
 (vOneV x12).bind fun y16 =>
 some ((.agg [y14, y15, y16]), H) := (callV_eq vb _ _ _ rfl).trans (by kernel_rfl)
noncomputable def spec_l13OwnListBox_l3 : List V -> VH -> Option (Option Nat × List V × VH) := roundV (vb.ctx cv lpW') (vb.b.ann 59) (vb.takes 59) ⟨⟨[3, 7, 8, 9], [], []⟩, [(.exit 0, ⟨[3], [], []⟩)]⟩ (loopIn Tryz.f59 3)
theorem spec_l13OwnListBox_l3_eq (v0 v1 v2 v3 : V) (H : VH) : spec_l13OwnListBox_l3 [v0, v1, v2, v3] H =
 (vBinV (.int .i64) .lss v3 v2).bind fun x6 =>
 ifVV x6 (
 (vIdxV 2 v1 v3).bind fun x7 =>
 (ldO globB false true 2 x7 H).bind fun r9 =>
 (aggNV 2 r9.1).bind fun c12 =>
 (pc id_spec_l13OwnBox [(frz r9.2 (.agg [(strip (c12.getD 0 .nilp)), (strip (c12.getD 1 .nilp))]))]).bind fun x15 =>
 (aggNV 2 x15).bind fun c17 =>
 (ownV v0).bind fun s19 =>
 (appV false 2 40 s19 (.sl true [[(c17.getD 0 .nilp), (c17.getD 1 .nilp)]])).bind fun x18 =>
 (vBinV (.int .i64) .add v3 (.int .i64 1)).bind fun x21 =>
 some (none, [x18, v1, v2, x21], r9.2)) (
 some (some 0, [v0], H)) := by kernel_rfl
theorem spec_l13OwnListBox_eq (a0 : V) (H : VH) : cv id_spec_l13OwnListBox [a0] H =
 (vLenVV (strip a0)).bind fun x4 =>
 (lpW' spec_l13OwnListBox_l3 [(.sl true []), (strip a0), x4, (.int .i64 0)] H).bind fun r23 =>
 inN r23.1 [
 gotV 1 r23.2.1 fun v24 =>
 some ((v24 0), r23.2.2)] := (callV_eq vb _ _ _ rfl).trans (by kernel_rfl)
theorem spec_l13OwnBox_eq (a0 : V) (H : VH) : cv id_spec_l13OwnBox [a0] H =
 (aggNV 2 a0).bind fun c1 =>
 (pc id_spec_l13OwnListMail [(frz H (strip (c1.getD 1 .nilp)))]).bind fun x5 =>
 (vOneV x5).bind fun y8 =>
 some ((.agg [(c1.getD 0 .nilp), y8]), H) := (callV_eq vb _ _ _ rfl).trans (by kernel_rfl)
noncomputable def spec_l13OwnListMail_l3 : List V -> VH -> Option (Option Nat × List V × VH) := roundV (vb.ctx cv lpW') (vb.b.ann 145) (vb.takes 145) ⟨⟨[3, 7, 8, 9], [], []⟩, [(.exit 0, ⟨[3], [], []⟩)]⟩ (loopIn Tryz.f145 3)
theorem spec_l13OwnListMail_l3_eq (v0 v1 v2 v3 : V) (H : VH) : spec_l13OwnListMail_l3 [v0, v1, v2, v3] H =
 (vBinV (.int .i64) .lss v3 v2).bind fun x6 =>
 ifVV x6 (
 (vIdxV 3 v1 v3).bind fun x7 =>
 (ldO globB false true 3 x7 H).bind fun r9 =>
 (aggNV 3 r9.1).bind fun c12 =>
 (pc id_spec_l13OwnMail [(frz r9.2 (.agg [(strip (c12.getD 0 .nilp)), (strip (c12.getD 1 .nilp)), (strip (c12.getD 2 .nilp))]))]).bind fun x15 =>
 (aggNV 3 x15).bind fun c17 =>
 (ownV v0).bind fun s19 =>
 (appV false 3 64 s19 (.sl true [[(c17.getD 0 .nilp), (c17.getD 1 .nilp), (c17.getD 2 .nilp)]])).bind fun x18 =>
 (vBinV (.int .i64) .add v3 (.int .i64 1)).bind fun x21 =>
 some (none, [x18, v1, v2, x21], r9.2)) (
 some (some 0, [v0], H)) := by kernel_rfl
theorem spec_l13OwnListMail_eq (a0 : V) (H : VH) : cv id_spec_l13OwnListMail [a0] H =
 (vLenVV (strip a0)).bind fun x4 =>
 (lpW' spec_l13OwnListMail_l3 [(.sl true []), (strip a0), x4, (.int .i64 0)] H).bind fun r23 =>
 inN r23.1 [
 gotV 1 r23.2.1 fun v24 =>
 some ((v24 0), r23.2.2)] := (callV_eq vb _ _ _ rfl).trans (by kernel_rfl)
theorem spec_l13OwnMail_eq (a0 : V) (H : VH) : cv id_spec_l13OwnMail [a0] H =
 (aggNV 3 a0).bind fun c1 =>
 (appV false 1 16 [] (c1.getD 1 .nilp)).bind fun x6 =>
 (vOneV x6).bind fun y9 =>
 (appV false 1 16 [] (c1.getD 2 .nilp)).bind fun x13 =>
 (vOneV x13).bind fun y16 =>
 some ((.agg [(c1.getD 0 .nilp), y9, y16]), H) := (callV_eq vb _ _ _ rfl).trans (by kernel_rfl)
noncomputable def spec_l10DrawMail_l3 : List V -> VH -> Option (Option Nat × List V × VH) := roundV (vb.ctx cv lpW') (vb.b.ann 31) (vb.takes 31) ⟨⟨[0, 4], [(2, (2, 0)), (3, (3, 0))], [(2, 3), (3, 3)]⟩, [(.exit 0, ⟨[0], [(2, (2, 0)), (3, (3, 0))], [(2, 3), (3, 3)]⟩)]⟩ (loopIn Tryz.f31 3)
noncomputable def spec_l10DrawMail_l7 : List V -> VH -> Option (Option Nat × List V × VH) := roundV (vb.ctx cv lpW') (vb.b.ann 31) (vb.takes 31) ⟨⟨[0, 5], [(2, (2, 0)), (3, (3, 0))], [(2, 3), (3, 3)]⟩, [(.exit 2, ⟨[], [(2, (2, 0)), (3, (3, 0))], [(2, 3), (3, 3)]⟩)]⟩ (loopIn Tryz.f31 7)
theorem spec_l10DrawMail_l3_eq (v0 v1 v2 v3 v4 v5 v6 v7 : V) (H : VH) : spec_l10DrawMail_l3 [v0, v1, v2, v3, v4, v5, v6, v7] H =
 (vBinV (.int .i64) .gtr v1 (.int .i64 0)).bind fun x21 =>
 ifVV x21 (
 (cv id_spec_l13Rd_of [(strip v0), (.sl false (stripLL [[(.str [98, 111, 98, 64, 121, 46, 111, 114, 103])], [(.str [99, 121, 64, 120, 46, 111, 114, 103])], [(.str [66, 111, 98, 64, 121, 46, 111, 114, 103])]]))] H).bind fun r27 =>
 (vOneV r27.1).bind fun y29 =>
 (ownV v6).bind fun s31 =>
 (appV false 1 16 s31 (.sl true [[y29]])).bind fun x30 =>
 (vOneV x30).bind fun y34 =>
 (vBinV (.int .i64) .sub (strip v1) (.int .i64 1)).bind fun x36 =>
 some (none, [(strip v0), x36, v2, v3, v4, v5, y34, v7], r27.2)) (
 some (some 0, [v0, v2, v3, v4, v5, v6, v7], H)) := by kernel_rfl
theorem spec_l10DrawMail_l7_eq (v0 v1 v2 v3 v4 v5 v6 v7 : V) (H : VH) : spec_l10DrawMail_l7 [v0, v1, v2, v3, v4, v5, v6, v7] H =
 (vBinV (.int .i64) .gtr v1 (.int .i64 0)).bind fun x46 =>
 ifVV x46 (
 (cv id_spec_l13Rd_of [(strip v0), (.sl false (stripLL [[(.str [83, 117, 98, 106, 101, 99, 116, 58, 32, 120])], [(.str [])], [(.str [116, 101, 120, 116])], [(.str [46])], [(.str [46, 97])], [(.str [82, 101, 99, 101, 105, 118, 101, 100, 58, 32, 98, 121, 32, 104])]]))] H).bind fun r52 =>
 (vOneV r52.1).bind fun y54 =>
 (ownV v7).bind fun s56 =>
 (appV false 1 16 s56 (.sl true [[y54]])).bind fun x55 =>
 (vOneV x55).bind fun y59 =>
 (vBinV (.int .i64) .sub (strip v1) (.int .i64 1)).bind fun x61 =>
 some (none, [(strip v0), x61, v2, v3, v4, v5, v6, y59], r52.2)) (
 some (some 0, [v2, v3, v4, v5, v6, v7], H)) := by kernel_rfl
theorem spec_l10DrawMail_eq (a0 : V) (H : VH) : cv id_spec_l10DrawMail [a0] H =
 (cv id_spec_l13Rd_of [(strip a0), (.sl false (stripLL [[(.str [97, 110, 110, 64, 120, 46, 111, 114, 103])], [(.str [])], [(.str [98, 46, 99, 64, 100, 46, 101])]]))] H).bind fun r4 =>
 (cv id_spec_l13Rd_of [(strip (strip a0)), (.sl false (stripLL [[(.str [98, 111, 98, 64, 121, 46, 111, 114, 103])], [(.str [97, 110, 110, 64, 120, 46, 111, 114, 103])]]))] r4.2).bind fun r8 =>
 (vOneV r8.1).bind fun y10 =>
 (vOneV r4.1).bind fun y13 =>
 (cv id_spec_l13Rd_pick [(strip (strip (strip a0))), (.int .i64 3)] r8.2).bind fun r18 =>
 (lpW' spec_l10DrawMail_l3 [(strip (strip (strip a0))), r18.1, (.str []), (.sl true []), (.sl true []), y13, (.sl true [[y10]]), (.sl true [])] r18.2).bind fun r38 =>
 inN r38.1 [
 gotV 7 r38.2.1 fun v39 =>
 (cv id_spec_l13Rd_num [(strip (v39 0)), (.sl false (stripLL [[(.int .i64 2)], [(.int .i64 3)], [(.int .i64 1)], [(.int .i64 0)]]))] r38.2.2).bind fun r43 =>
 (lpW' spec_l10DrawMail_l7 [(strip (v39 0)), r43.1, (v39 1), (v39 2), (v39 3), (v39 4), (v39 5), (v39 6)] r43.2).bind fun r63 =>
 inN r63.1 [
 gotV 6 r63.2.1 fun v64 =>
 some ((.agg [(v64 3), (v64 4), (v64 5)]), r63.2.2)]] := (callV_eq vb _ _ _ rfl).trans (by kernel_rfl)
theorem spec_DeliverMail_eq (a0 a1 : V) (H : VH) : cv id_spec_DeliverMail [a0, a1] H =
 (aggNV 3 a1).bind fun c1 =>
 (pc id_spec_l11RawDeliverMail [(frz H (strip a0)), (frz H (.agg [(strip (c1.getD 0 .nilp)), (strip (c1.getD 1 .nilp)), (strip (c1.getD 2 .nilp))]))]).bind fun x7 =>
 (vExtV x7 0).bind fun x9 =>
 (vExtV x7 1).bind fun x10 =>
 (vExtV (stripAt 1 x7) 2).bind fun x11 =>
 (pc id_spec_l13OwnListBox [(frz H (strip (strip (strip x9))))]).bind fun x16 =>
 (appV false 1 8 [] x10).bind fun x19 =>
 some ((.tup [x16, x19, (strip x11)]), H) := (callV_eq vb _ _ _ rfl).trans (by kernel_rfl)
noncomputable def spec_l11RawDeliverMail_l6 : List V -> VH -> Option (Option Nat × List V × VH) := roundV (vb.ctx cv lpW') (vb.b.ann 136) (vb.takes 136) ⟨⟨[7, 8, 9], [(3, (3, 0))], [(3, 3)]⟩, [(.exit 0, ⟨[7, 8], [], []⟩)]⟩ (loopIn Tryz.f136 6)
theorem spec_l11RawDeliverMail_l6_eq (v0 v1 v2 v3 v4 v5 : V) (H : VH) : spec_l11RawDeliverMail_l6 [v0, v1, v2, v3, v4, v5] H =
 (vLenVV (strip v4)).bind fun x38 =>
 (vBinV (.int .i64) .lss v2 x38).bind fun x39 =>
 ifVV x39 (
 (id (
 (vIdxV 1 (strip v4) (strip v2)).bind fun x44 =>
 (ldO globB false false 1 x44 H).bind fun r46 =>
 (qco id_spec_l11Find r46.2 [(strip v1), r46.1]).bind fun x47 =>
 (vBinV (.int .i64) .lss x47 (.int .i64 0)).bind fun x50 =>
 ifVV x50 (
 (appO false false 1 8 v0 (.sl true [[(.int .i64 550)]]) r46.2).bind fun r55 =>
 some (0, [r55.1, v1, (strip (strip v2)), v3, v4, v5], r55.2)) (
 (vIdxV 2 (strip v1) (strip x47)).bind fun x59 =>
 (vOffV x59 1).bind fun x60 =>
 (ldO globB false false 1 x60 r46.2).bind fun r62 =>
 (vLenVV r62.1).bind fun x63 =>
 (vBinV (.int .i64) .eql x63 (.int .i64 4)).bind fun x64 =>
 ifVV x64 (
 (appO false false 1 8 v0 (.sl true [[(.int .i64 452)]]) r62.2).bind fun r69 =>
 some (0, [r69.1, v1, (strip (strip v2)), v3, v4, v5], r69.2)) (
 (pco id_spec_l10Mail r62.2 [(.agg [(strip v3), (strip v4), (strip v5)])]).bind fun x72 =>
 (aggNV 3 x72).bind fun c75 =>
 (vIdxV 1 (strip v4) (strip (strip v2))).bind fun x79 =>
 (ldO globB false false 1 x79 r62.2).bind fun r81 =>
 (vOneV r81.1).bind fun y83 =>
 (vIdxV 2 (strip v1) (strip (strip (strip x47)))).bind fun x90 =>
 (vOffV x90 1).bind fun x91 =>
 (ldO globB true false 1 x91 r81.2).bind fun r93 =>
 (appO false false 3 64 r93.1 (.sl true [[(c75.getD 0 .nilp), (.sl true [[y83]]), (c75.getD 2 .nilp)]]) r93.2).bind fun r97 =>
 (vIdxV 2 (strip v1) (strip (strip x47))).bind fun x98 =>
 (vOffV x98 1).bind fun x99 =>
 (vOneV r97.1).bind fun y101 =>
 (stO x99 [y101] r97.2).bind fun H102 =>
 (appO false false 1 8 v0 (.sl true [[(.int .i64 250)]]) H102).bind fun r106 =>
 some (0, [r106.1, v1, (strip (strip (strip v2))), v3, v4, v5], r106.2))) : Option (Nat × List V × VH))).bind fun r108 =>
 inN r108.1 [
 gotV 6 r108.2.1 fun v109 =>
 (vBinV (.int .i64) .add (v109 2) (.int .i64 1)).bind fun x111 =>
 some (none, [(v109 0), (v109 1), x111, (v109 3), (v109 4), (v109 5)], r108.2.2)]) (
 some (some 0, [v0, v1], H)) := by kernel_rfl
theorem spec_l11RawDeliverMail_eq (a0 a1 : V) (H : VH) : cv id_spec_l11RawDeliverMail [a0, a1] H =
 (aggNV 3 a1).bind fun c1 =>
 (id (
 (qco id_spec_BoxesValid H [(strip a0)]).bind fun x8 =>
 (vUnV .not x8).bind fun x9 =>
 ifGV x9 (
 some (0, [(.sl true []), (.sl true []), (.bool false)], H)) (
 (qco id_spec_MailValid H [(.agg [(strip (c1.getD 0 .nilp)), (strip (c1.getD 1 .nilp)), (strip (c1.getD 2 .nilp))])]).bind fun x18 =>
 (vUnV .not x18).bind fun x19 =>
 ifVV x19 (
 some (0, [(.sl true []), (.sl true []), (.bool false)], H)) (
 some (1, [a0, (.sl true []), (c1.getD 0 .nilp), (c1.getD 1 .nilp), (c1.getD 2 .nilp)], H))) : Option (Nat × List V × VH))).bind fun r26 =>
 inN r26.1 [
 gotV 3 r26.2.1 fun v27 =>
 some ((.tup [(v27 0), (v27 1), (v27 2)]), r26.2.2),
 gotV 5 r26.2.1 fun v28 =>
 (pco id_spec_l11Copy r26.2.2 [(strip (v28 0))]).bind fun x30 =>
 promB 1 x30 r26.2.2 fun o31 h32 =>
 (lpW' spec_l11RawDeliverMail_l6 [(v28 1), o31, (.int .i64 0), (v28 2), (v28 3), (v28 4)] h32).bind fun r113 =>
 inN r113.1 [
 gotV 2 r113.2.1 fun v114 =>
 some ((.tup [(v114 1), (v114 0), (.bool true)]), r113.2.2)]] := (callV_eq vb _ _ _ rfl).trans (by kernel_rfl)
theorem spec_l11Wrong_eq (a0 a1 : V) (H : VH) : cv id_spec_l11Wrong [a0, a1] H =
 (pco id_spec_l11Copy H [(strip a1)]).bind fun x2 =>
 promB 1 x2 H fun o3 h4 =>
 (cv id_spec_l13Rd_pick [(strip a0), (.int .i64 20)] h4).bind fun r8 =>
 (vBinV (.int .i64) .eql r8.1 (.int .i64 0)).bind fun x9 =>
 ifVV x9 (
 (cv id_spec_l13Rd_of [(strip (strip a0)), (.sl false (stripLL [[(.str [97])], [(.str [97, 64, 98])], [(.str [122, 64, 122])]]))] r8.2).bind fun r15 =>
 (vOneV r15.1).bind fun y17 =>
 (appO false false 2 40 o3 (.sl true [[y17, (.sl true [])]]) r15.2).bind fun r20 =>
 some (r20.1, r20.2)) (
 (vBinV (.int .i64) .eql r8.1 (.int .i64 1)).bind fun x24 =>
 ifVV x24 (
 (vLenVV (strip o3)).bind fun x27 =>
 (vBinV (.int .i64) .gtr x27 (.int .i64 0)).bind fun x28 =>
 ifVV x28 (
 (vLenVV (strip o3)).bind fun x31 =>
 (cv id_spec_l13Rd_pick [(strip (strip a0)), (strip x31)] r8.2).bind fun r33 =>
 (vIdxV 2 (strip o3) (strip r33.1)).bind fun x39 =>
 (vOffV x39 1).bind fun x40 =>
 (ldO globB true false 1 x40 r33.2).bind fun r42 =>
 (appO false false 3 64 r42.1 (.sl true [[(.str [120]), (.sl true []), (.sl true [])]]) r42.2).bind fun r46 =>
 (vIdxV 2 (strip o3) r33.1).bind fun x47 =>
 (vOffV x47 1).bind fun x48 =>
 (vOneV r46.1).bind fun y50 =>
 (stO x48 [y50] r46.2).bind fun H51 =>
 some (o3, H51)) (
 some (o3, r8.2))) (
 some (o3, r8.2))) := (callV_eq vb _ _ _ rfl).trans (by kernel_rfl)
noncomputable def slices_BinarySearchFunc___impl_Box_impl_Box_string__l3 : List V -> VH -> Option (Option Nat × List V × VH) := roundV (vb.ctx cv lpW') (vb.b.ann 103) (vb.takes 103) ⟨⟨[0, 1, 2, 8, 9, 10], [], []⟩, [(.exit 0, ⟨[0, 1, 2, 8, 9], [], []⟩)]⟩ (loopIn Tryz.f103 3)
noncomputable def impl_BoxesValid_l2 : List V -> VH -> Option (Option Nat × List V × VH) := roundV (vb.ctx cv lpW') (vb.b.ann 54) (vb.takes 54) ⟨⟨[0, 5, 6, 7], [], []⟩, [(.exit 0, ⟨[0], [], []⟩), (.ret, ⟨[2], [], []⟩)]⟩ (loopIn Tryz.f54 2)
noncomputable def internal_stringslite_Index_l15 : List V -> VH -> Option (Option Nat × List V × VH) := roundV (vb.ctx cv lpW') (vb.b.ann 174) (vb.takes 174) ⟨⟨[0, 1, 5, 6, 7, 8, 9, 10], [], []⟩, [(.exit 1, ⟨[], [], []⟩), (.ret, ⟨[4], [], []⟩)]⟩ (loopIn Tryz.f174 15)
theorem internal_stringslite_Index_eq (a0 a1 : V) (H : VH) : cv id_internal_stringslite_Index [a0, a1] H =
 (vLenSV a1).bind fun x2 =>
 (id (
 (vBinV (.int .i64) .eql x2 (.int .i64 0)).bind fun x5 =>
 ifGV x5 (
 some (0, [(.int .i64 0)], H)) (
 (vBinV .str .eql (strip a1) a0).bind fun x12 =>
 ifVV x12 (
 some (0, [(.int .i64 0)], H)) (
 (vBinV (.int .i64) .eql (strip x2) (.int .i64 1)).bind fun x17 =>
 ifVV x17 (
 (vIndexSV (strip (strip a1)) (.int .i64 0)).bind fun x21 =>
 (qc id_internal_stringslite_IndexByte [(frz H (strip a0)), (frz H x21)]).bind fun x22 =>
 some (0, [x22], H)) (
 (vLenSV (strip a0)).bind fun x26 =>
 (vBinV (.int .i64) .geq (strip (strip x2)) x26).bind fun x27 =>
 ifVV x27 (
 some (0, [(.int .i64 (-1))], H)) (
 (ldO globB false false 1 (.gp 1 0) H).bind fun r32 =>
 (vBinV (.int .i64) .leq (strip (strip (strip x2))) r32.1).bind fun x33 =>
 ifGV x33 (
 (vLenSV (strip (strip a0))).bind fun x36 =>
 (vBinV (.int .i64) .leq x36 (.int .i64 64)).bind fun x37 =>
 ifVV x37 (
 (extB 2 [(strip (strip (strip a0))), (strip (strip a1))] fun x42 =>
  some (0, [x42], r32.2))) (
 some (1, [(strip (strip (strip a0))), (strip (strip a1)), (strip (strip (strip (strip x2))))], r32.2))) (
 some (1, [(strip (strip a0)), (strip (strip a1)), (strip (strip (strip (strip x2))))], r32.2)))))) : Option (Nat × List V × VH))).bind fun r46 =>
 inN r46.1 [
 gotV 1 r46.2.1 fun v47 =>
 some ((v47 0), r46.2.2),
 gotV 3 r46.2.1 fun v48 =>
 (vIndexSV (v48 1) (.int .i64 0)).bind fun x50 =>
 (vIndexSV (strip (v48 1)) (.int .i64 1)).bind fun x53 =>
 (vLenSV (v48 0)).bind fun x57 =>
 (vBinV (.int .i64) .sub x57 (v48 2)).bind fun x59 =>
 (vBinV (.int .i64) .add x59 (.int .i64 1)).bind fun x60 =>
 (lpW' internal_stringslite_Index_l15 [(strip (v48 0)), (strip (strip (v48 1))), (strip (v48 2)), x50, x53, (.int .i64 0), x60, (.int .i64 0)] r46.2.2).bind fun r208 =>
 inN r208.1 [
 gotV 0 r208.2.1 fun v209 =>
 some ((.int .i64 (-1)), r208.2.2),
 gotV 1 r208.2.1 fun v211 =>
 some ((v211 0), r208.2.2)]] := (callV_eq vb _ _ _ rfl).trans (by kernel_rfl)
theorem internal_stringslite_IndexByte_eq (a0 a1 : V) (H : VH) : cv id_internal_stringslite_IndexByte [a0, a1] H =
 (extB 0 [a0, a1] fun x3 =>
  some (x3, H)) := (callV_eq vb _ _ _ rfl).trans (by kernel_rfl)
noncomputable def internal_bytealg_IndexRabinKarp_string__l5 : List V -> VH -> Option (Option Nat × List V × VH) := roundV (vb.ctx cv lpW') (vb.b.ann 213) (vb.takes 213) ⟨⟨[0, 1, 5, 6, 7, 8, 9], [], []⟩, [(.exit 0, ⟨[0, 1, 5, 6, 7, 8], [], []⟩)]⟩ (loopIn Tryz.f213 5)
noncomputable def internal_bytealg_IndexRabinKarp_string__l11 : List V -> VH -> Option (Option Nat × List V × VH) := roundV (vb.ctx cv lpW') (vb.b.ann 213) (vb.takes 213) ⟨⟨[0, 1, 5, 6, 7, 8, 10], [], []⟩, [(.exit 2, ⟨[], [], []⟩), (.ret, ⟨[4], [], []⟩)]⟩ (loopIn Tryz.f213 11)
noncomputable def internal_bytealg_hashStr_string__l3 : List V -> VH -> Option (Option Nat × List V × VH) := roundV (vb.ctx cv lpW') (vb.b.ann 236) (vb.takes 236) ⟨⟨[0, 4, 5], [], []⟩, [(.exit 0, ⟨[0, 4], [], []⟩)]⟩ (loopIn Tryz.f236 3)
noncomputable def internal_bytealg_hashStr_string__l8 : List V -> VH -> Option (Option Nat × List V × VH) := roundV (vb.ctx cv lpW') (vb.b.ann 236) (vb.takes 236) ⟨⟨[4, 6, 7, 8], [], []⟩, [(.exit 2, ⟨[4, 6], [], []⟩)]⟩ (loopIn Tryz.f236 8)
theorem strings_Split_eq (a0 a1 : V) (H : VH) : cv id_strings_Split [a0, a1] H =
 (pc id_strings_genSplit [(frz H a0), (frz H a1), (frz H (.int .i64 0)), (frz H (.int .i64 (-1)))]).bind fun x3 =>
 some (x3, H) := (callV_eq vb _ _ _ rfl).trans (by kernel_rfl)
noncomputable def strings_genSplit_l11 : List V -> VH -> Option (Option Nat × List V × VH) := roundV (vb.ctx cv lpW') (vb.b.ann 117) (vb.takes 117) ⟨⟨[0, 1, 2, 3, 9, 10], [], []⟩, [(.exit 0, ⟨[0, 9, 10], [], []⟩)]⟩ (loopIn Tryz.f117 11)
theorem strings_genSplit_l11_eq (v0 v1 v2 v3 v4 v5 : V) (H : VH) : strings_genSplit_l11 [v0, v1, v2, v3, v4, v5] H =
 (vBinV (.int .i64) .lss v5 v3).bind fun x34 =>
 ifVV x34 (
 (qc id_strings_Index [(frz H v0), (frz H v1)]).bind fun x37 =>
 (vBinV (.int .i64) .lss x37 (.int .i64 0)).bind fun x40 =>
 ifVV x40 (
 some (some 0, [(strip v0), v4, (strip v5)], H)) (
 (vBinV (.int .i64) .add (strip x37) v2).bind fun x46 =>
 (vSliceSV (strip v0) none (some x46)).bind fun x47 =>
 (vIdxV 1 (strip v4) (strip v5)).bind fun x48 =>
 (vOneV x47).bind fun y50 =>
 (stO x48 [y50] H).bind fun H51 =>
 (vLenSV (strip v1)).bind fun x55 =>
 (vBinV (.int .i64) .add (strip (strip x37)) x55).bind fun x56 =>
 (vSliceSV (strip (strip v0)) (some x56) none).bind fun x57 =>
 (vBinV (.int .i64) .add (strip (strip v5)) (.int .i64 1)).bind fun x60 =>
 some (none, [x57, (strip (strip v1)), (strip v2), (strip v3), v4, x60], H51))) (
 some (some 0, [v0, v4, (strip v5)], H)) := by kernel_rfl
theorem strings_genSplit_eq (a0 a1 a2 a3 : V) (H : VH) : cv id_strings_genSplit [a0, a1, a2, a3] H =
 (vBinV (.int .i64) .eql a3 (.int .i64 0)).bind fun x2 =>
 ifVV x2 (
 some ((.sl true []), H)) (
 (vBinV .str .eql a1 (.str [])).bind fun x5 =>
 ifVV x5 (
 (pc id_strings_explode [(frz H a0), (frz H (strip a3))]).bind fun x8 =>
 some (x8, H)) (
 (id (
 (vBinV (.int .i64) .lss (strip a3) (.int .i64 0)).bind fun x11 =>
 ifVV x11 (
 (qc id_strings_Count [(frz H a0), (frz H (strip a1))]).bind fun x14 =>
 (vBinV (.int .i64) .add x14 (.int .i64 1)).bind fun x15 =>
 some (0, [(strip a0), (strip (strip a1)), a2, x15], H)) (
 some (0, [a0, (strip a1), a2, (strip (strip a3))], H)) : Option (Nat × List V × VH))).bind fun r17 =>
 inN r17.1 [
 gotV 4 r17.2.1 fun v18 =>
 (vLenSV (v18 0)).bind fun x21 =>
 (vBinV (.int .i64) .add x21 (.int .i64 1)).bind fun x22 =>
 (vMinV (v18 3) x22).bind fun x23 =>
 (mkLenV 16 x23 x23).bind fun x26 =>
 (vBinV (.int .i64) .sub (strip x23) (.int .i64 1)).bind fun x29 =>
 (lpW' strings_genSplit_l11 [(strip (v18 0)), (v18 1), (v18 2), x29, (.obs r17.2.2.length 0 x26.1 1), (.int .i64 0)] (r17.2.2 ++ [repV x26.2 [(.str [])]])).bind fun r62 =>
 inN r62.1 [
 gotV 3 r62.2.1 fun v63 =>
 (vIdxV 1 (strip (v63 1)) (v63 2)).bind fun x67 =>
 (vOneV (v63 0)).bind fun y69 =>
 (stO x67 [y69] r62.2.2).bind fun H70 =>
 (vBinV (.int .i64) .add (strip (v63 2)) (.int .i64 1)).bind fun x73 =>
 (vSliceVV 1 (strip (v63 1)) none (some x73)).bind fun x74 =>
 some (x74, H70)]])) := (callV_eq vb _ _ _ rfl).trans (by kernel_rfl)
noncomputable def strings_explode_l6 : List V -> VH -> Option (Option Nat × List V × VH) := roundV (vb.ctx cv lpW') (vb.b.ann 146) (vb.takes 146) ⟨⟨[0, 1, 6, 7], [], []⟩, [(.exit 0, ⟨[0, 1, 6], [], []⟩)]⟩ (loopIn Tryz.f146 6)
noncomputable def strings_Count_l6 : List V -> VH -> Option (Option Nat × List V × VH) := roundV (vb.ctx cv lpW') (vb.b.ann 147) (vb.takes 147) ⟨⟨[0, 1, 5], [], []⟩, [(.ret, ⟨[4], [], []⟩)]⟩ (loopIn Tryz.f147 6)
theorem strings_Count_eq (a0 a1 : V) (H : VH) : cv id_strings_Count [a0, a1] H =
 (vLenSV a1).bind fun x2 =>
 (vBinV (.int .i64) .eql x2 (.int .i64 0)).bind fun x3 =>
 ifVV x3 (
 (qc id_unicode_utf8_RuneCountInString [(frz H a0)]).bind fun x5 =>
 (vBinV (.int .i64) .add x5 (.int .i64 1)).bind fun x6 =>
 some (x6, H)) (
 (vLenSV (strip a1)).bind fun x9 =>
 (vBinV (.int .i64) .eql x9 (.int .i64 1)).bind fun x10 =>
 ifVV x10 (
 (vIndexSV (strip (strip a1)) (.int .i64 0)).bind fun x13 =>
 (extB 1 [a0, x13] fun x14 =>
  some (x14, H))) (
 (lpW' strings_Count_l6 [a0, (strip (strip a1)), (.int .i64 0)] H).bind fun r35 =>
 inN r35.1 [
 gotV 1 r35.2.1 fun v36 =>
 some ((v36 0), r35.2.2)])) := (callV_eq vb _ _ _ rfl).trans (by kernel_rfl)
theorem strings_Index_eq (a0 a1 : V) (H : VH) : cv id_strings_Index [a0, a1] H =
 (qc id_internal_stringslite_Index [(frz H a0), (frz H a1)]).bind fun x3 =>
 some (x3, H) := (callV_eq vb _ _ _ rfl).trans (by kernel_rfl)
noncomputable def slices_IndexFunc___string_string__l2 : List V -> VH -> Option (Option Nat × List V × VH) := roundV (vb.ctx cv lpW') (vb.b.ann 123) (vb.takes 123) ⟨⟨[0, 1, 7, 8], [], []⟩, [(.exit 0, ⟨[], [], []⟩), (.ret, ⟨[4], [], []⟩)]⟩ (loopIn Tryz.f123 2)
noncomputable def impl_allBytes_l2 : List V -> VH -> Option (Option Nat × List V × VH) := roundV (vb.ctx cv lpW') (vb.b.ann 128) (vb.takes 128) ⟨⟨[0, 1, 7, 8], [], []⟩, [(.exit 0, ⟨[], [], []⟩), (.ret, ⟨[4], [], []⟩)]⟩ (loopIn Tryz.f128 2)
noncomputable def slices_IndexFunc___impl_Mail_impl_Mail__l2 : List V -> VH -> Option (Option Nat × List V × VH) := roundV (vb.ctx cv lpW') (vb.b.ann 173) (vb.takes 173) ⟨⟨[0, 1, 7, 8], [], []⟩, [(.exit 0, ⟨[], [], []⟩), (.ret, ⟨[4], [], []⟩)]⟩ (loopIn Tryz.f173 2)
noncomputable def impl_TextValid_l2 : List V -> VH -> Option (Option Nat × List V × VH) := roundV (vb.ctx cv lpW') (vb.b.ann 69) (vb.takes 69) ⟨⟨[0, 5, 6], [], []⟩, [(.exit 0, ⟨[0], [], []⟩), (.ret, ⟨[2], [], []⟩)]⟩ (loopIn Tryz.f69 2)
noncomputable def impl_copyBoxes_l3 : List V -> VH -> Option (Option Nat × List V × VH) := roundV (vb.ctx cv lpW') (vb.b.ann 57) (vb.takes 57) ⟨⟨[3, 7, 8, 9], [], []⟩, [(.exit 0, ⟨[3], [], []⟩)]⟩ (loopIn Tryz.f57 3)
noncomputable def impl_copyMails_l3 : List V -> VH -> Option (Option Nat × List V × VH) := roundV (vb.ctx cv lpW') (vb.b.ann 111) (vb.takes 111) ⟨⟨[3, 7, 8, 9], [], []⟩, [(.exit 0, ⟨[3], [], []⟩)]⟩ (loopIn Tryz.f111 3)
noncomputable def slices_EqualFunc___impl_Box___impl_Box_impl_Box_impl_Box__l4 : List V -> VH -> Option (Option Nat × List V × VH) := roundV (vb.ctx cv lpW') (vb.b.ann 60) (vb.takes 60) ⟨⟨[1, 2, 15, 16, 17], [], []⟩, [(.exit 0, ⟨[], [], []⟩), (.ret, ⟨[6], [], []⟩)]⟩ (loopIn Tryz.f60 4)
noncomputable def slices_EqualFunc___impl_Mail___impl_Mail_impl_Mail_impl_Mail__l4 : List V -> VH -> Option (Option Nat × List V × VH) := roundV (vb.ctx cv lpW') (vb.b.ann 62) (vb.takes 62) ⟨⟨[1, 2, 15, 16, 17], [], []⟩, [(.exit 0, ⟨[], [], []⟩), (.ret, ⟨[6], [], []⟩)]⟩ (loopIn Tryz.f62 4)
noncomputable def slices_Equal___string_string__l4 : List V -> VH -> Option (Option Nat × List V × VH) := roundV (vb.ctx cv lpW') (vb.b.ann 47) (vb.takes 47) ⟨⟨[0, 1, 12, 13], [], []⟩, [(.exit 0, ⟨[], [], []⟩), (.ret, ⟨[4], [], []⟩)]⟩ (loopIn Tryz.f47 4)
noncomputable def impl_RunScript_l5 : List V -> VH -> Option (Option Nat × List V × VH) := roundV (vb.ctx cv lpW') (vb.b.ann 21) (vb.takes 21) ⟨⟨[3, 4, 12, 13, 14], [], []⟩, [(.exit 0, ⟨[4], [], []⟩), (.ret, ⟨[2], [], []⟩)]⟩ (loopIn Tryz.f21 5)
theorem impl_RunScript_l5_eq (v0 v1 v2 v3 v4 : V) (H : VH) : impl_RunScript_l5 [v0, v1, v2, v3, v4] H =
 (vBinV (.int .i64) .lss v4 v3).bind fun x15 =>
 ifVV x15 (
 (vIdxV 1 v2 (strip v4)).bind fun x17 =>
 (ldO globB false false 1 x17 H).bind fun r19 =>
 (vBinV .str .eql r19.1 (.str [])).bind fun x23 =>
 ifVV x23 (
 (vBinV (.int .i64) .add (strip v4) (.int .i64 1)).bind fun x24 =>
 some (none, [v0, v1, v2, v3, x24], r19.2)) (
 (id (
 (vBinV (.int .i64) .geq v4 (.int .i64 200)).bind fun x27 =>
 ifGV x27 (
 (vBinV .str .add v1 (.str [102, 117, 108, 108, 10])).bind fun x31 =>
 some (0, [x31], r19.2)) (
 (vLenSV v1).bind fun x34 =>
 (vBinV (.int .i64) .gtr x34 (.int .i64 40000)).bind fun x35 =>
 ifVV x35 (
 (vBinV .str .add (strip v1) (.str [102, 117, 108, 108, 10])).bind fun x38 =>
 some (0, [x38], r19.2)) (
 some (1, [v0, (strip v1), (strip r19.1), v2, v3, (strip v4)], r19.2))) : Option (Nat × List V × VH))).bind fun r40 =>
 inN r40.1 [
 gotV 1 r40.2.1 fun v41 =>
 some (some 1, [(v41 0)], r40.2.2),
 gotV 6 r40.2.1 fun v42 =>
 (cv id_impl_gate_line [(strip (v42 0)), (strip (v42 2))] r40.2.2).bind fun r46 =>
 (vBinV .str .add (v42 1) r46.1).bind fun x47 =>
 (vBinV (.int .i64) .add (v42 5) (.int .i64 1)).bind fun x49 =>
 some (none, [(v42 0), x47, (v42 3), (v42 4), x49], r46.2)])) (
 some (some 0, [v1], H)) := by kernel_rfl
theorem impl_RunScript_eq (a0 : V) (H : VH) : cv id_impl_RunScript [a0] H =
 (vLenSV a0).bind fun x2 =>
 (vBinV (.int .i64) .gtr x2 (.int .i64 20000)).bind fun x3 =>
 ifVV x3 (
 some ((.str [108, 111, 110, 103, 10]), H)) (
 (pc id_impl_newGate []).bind fun x5 =>
 (aggNV 14 x5).bind fun c8 =>
 (stO (.ptr H.length 0) [(c8.getD 0 .nilp), (c8.getD 1 .nilp), (c8.getD 2 .nilp), (c8.getD 3 .nilp), (c8.getD 4 .nilp), (c8.getD 5 .nilp), (c8.getD 6 .nilp), (c8.getD 7 .nilp), (c8.getD 8 .nilp), (c8.getD 9 .nilp), (c8.getD 10 .nilp), (c8.getD 11 .nilp), (c8.getD 12 .nilp), (c8.getD 13 .nilp)] (H ++ [[(.sl true []), (.int .i64 0), (.str []), (.str []), (.sl true []), (.sl true []), (.sl true []), (.int .i64 0), (.int .i64 0), (.int .i64 0), (.int .i64 0), (.int .i64 0), (.int .i64 0), (.int .i64 0)]])).bind fun H9 =>
 (pc id_strings_Split [(frz H9 (strip a0)), (frz H9 (.str [10]))]).bind fun x12 =>
 (vLenVV x12).bind fun x13 =>
 (lpW' impl_RunScript_l5 [(.ptr H.length 0), (.str []), x12, x13, (.int .i64 0)] H9).bind fun r51 =>
 inN r51.1 [
 gotV 1 r51.2.1 fun v52 =>
 some ((v52 0), r51.2.2),
 gotV 1 r51.2.1 fun v55 =>
 some ((v55 0), r51.2.2)]) := (callV_eq vb _ _ _ rfl).trans (by kernel_rfl)
theorem impl_newGate_eq (H : VH) : cv id_impl_newGate [] H =
 (pc id_impl_DateOf [(frz H (.int .i64 1767593289)), (frz H (.int .i64 60))]).bind fun x1 =>
 (vExtV x1 0).bind fun x3 =>
 (vExtV x1 1).bind fun x4 =>
 (aggNV 7 (strip x3)).bind fun c7 =>
 some ((.agg [(.sl true []), (.int .i64 0), (.str []), (.str []), (.sl true []), (.sl true []), (.sl true []), (strip (c7.getD 0 .nilp)), (strip (c7.getD 1 .nilp)), (strip (c7.getD 2 .nilp)), (strip (c7.getD 3 .nilp)), (strip (c7.getD 4 .nilp)), (strip (c7.getD 5 .nilp)), (strip (c7.getD 6 .nilp))]), H) := (callV_eq vb _ _ _ rfl).trans (by kernel_rfl)
noncomputable def impl_DateOf_l8 : List V -> VH -> Option (Option Nat × List V × VH) := roundV (vb.ctx cv lpW') (vb.b.ann 116) (vb.takes 116) ⟨⟨[7], [(4, (4, 0)), (9, (9, 0))], [(4, 7), (9, 7)]⟩, [(.exit 0, ⟨[7], [(4, (4, 0)), (9, (9, 0))], [(4, 7), (9, 7)]⟩)]⟩ (loopIn Tryz.f116 8)
theorem impl_DateOf_l8_eq (v0 v1 v2 v3 v4 v5 v6 v7 v8 v9 v10 v11 v12 v13 v14 : V) (H : VH) : impl_DateOf_l8 [v0, v1, v2, v3, v4, v5, v6, v7, v8, v9, v10, v11, v12, v13, v14] H =
 (id (
 (vBinV (.int .i64) .leq (strip v8) (.int .i64 2099)).bind fun x53 =>
 ifGV x53 (
 (qc id_impl_DaysOf [(frz H (strip v8)), (frz H (strip v9))]).bind fun x60 =>
 (vBinV (.int .i64) .geq v0 x60).bind fun x61 =>
 ifVV x61 (
 some (0, [(strip v0), v1, v2, v3, v4, v5, v6, v7, v8, v9, v10, v11, v12, v13, v14], H)) (
 some (1, [(strip v0), v1, v2, v3, v4, v5, v6, v7, v8, v9, v10, v11, v12, v13, v14], H))) (
 some (1, [v0, v1, v2, v3, v4, v5, v6, v7, v8, v9, v10, v11, v12, v13, v14], H)) : Option (Nat × List V × VH))).bind fun r64 =>
 inN r64.1 [
 gotV 15 r64.2.1 fun v65 =>
 (qc id_impl_DaysOf [(frz r64.2.2 (strip (v65 8))), (frz r64.2.2 (strip (v65 9)))]).bind fun x71 =>
 (vBinV (.int .i64) .sub (v65 0) x71).bind fun x72 =>
 (vBinV (.int .i64) .add (strip (v65 9)) (.int .i64 1)).bind fun x76 =>
 (vOneV x76).bind fun y79 =>
 (vBinV (.int .i64) .gtr (strip y79) (.int .i64 12)).bind fun x82 =>
 ifVV x82 (
 (vBinV (.int .i64) .add (strip (v65 8)) (.int .i64 1)).bind fun x85 =>
 (vOneV x85).bind fun y88 =>
 some (none, [x72, (v65 1), (v65 2), (v65 3), (v65 4), (v65 5), (v65 6), (v65 7), y88, (.int .i64 1), (v65 10), (v65 11), (v65 12), (v65 13), (v65 14)], r64.2.2)) (
 some (none, [x72, (v65 1), (v65 2), (v65 3), (v65 4), (v65 5), (v65 6), (v65 7), (v65 8), y79, (v65 10), (v65 11), (v65 12), (v65 13), (v65 14)], r64.2.2)),
 gotV 15 r64.2.1 fun v91 =>
 some (some 0, [(v91 0), (v91 1), (v91 2), (v91 3), (v91 4), (v91 5), (v91 6), (v91 7), (v91 8), (v91 9), (v91 10), (v91 11), (v91 12), (v91 13), (v91 14)], r64.2.2)] := by kernel_rfl
theorem impl_DateOf_eq (a0 a1 : V) (H : VH) : cv id_impl_DateOf [a0, a1] H =
 (id (
 (qc id_impl_between [(frz H a0), (frz H (.int .i64 0)), (frz H (.int .i64 4102444799))]).bind fun x3 =>
 (vUnV .not x3).bind fun x4 =>
 ifGV x4 (
 some (0, [(.bool false), (.int .i64 0), (.int .i64 0), (.int .i64 0), (.int .i64 0), (.int .i64 0), (.int .i64 0), (.int .i64 0)], H)) (
 (qc id_impl_isZone [(frz H a1)]).bind fun x11 =>
 (vUnV .not x11).bind fun x12 =>
 ifVV x12 (
 some (0, [(.bool false), (.int .i64 0), (.int .i64 0), (.int .i64 0), (.int .i64 0), (.int .i64 0), (.int .i64 0), (.int .i64 0)], H)) (
 some (1, [(strip a0), (strip a1), (.int .i64 0), (.int .i64 0), (.int .i64 0), (.int .i64 0), (.int .i64 0), (.int .i64 0), (.int .i64 0)], H))) : Option (Nat × List V × VH))).bind fun r17 =>
 inN r17.1 [
 gotV 8 r17.2.1 fun v18 =>
 some ((.tup [(.agg [(v18 1), (v18 2), (v18 3), (v18 4), (v18 5), (v18 6), (v18 7)]), (v18 0)]), r17.2.2),
 gotV 9 r17.2.1 fun v19 =>
 (vBinV (.int .i64) .mul (v19 1) (.int .i64 60)).bind fun x22 =>
 (vBinV (.int .i64) .add (v19 0) x22).bind fun x23 =>
 (vBinV (.int .i64) .lss x23 (.int .i64 0)).bind fun x26 =>
 ifVV x26 (
 some ((.tup [(.agg [(.int .i64 0), (.int .i64 0), (.int .i64 0), (.int .i64 0), (.int .i64 0), (.int .i64 0), (.int .i64 0)]), (.bool false)]), r17.2.2)) (
 (vBinV (.int .i64) .quo (strip x23) (.int .i64 86400)).bind fun x31 =>
 (vBinV (.int .i64) .rem (strip (strip x23)) (.int .i64 86400)).bind fun x33 =>
 (vBinV (.int .i64) .quo x33 (.int .i64 3600)).bind fun x37 =>
 (vBinV (.int .i64) .quo (strip x33) (.int .i64 60)).bind fun x39 =>
 (vBinV (.int .i64) .rem x39 (.int .i64 60)).bind fun x40 =>
 (vBinV (.int .i64) .rem (strip (strip x33)) (.int .i64 60)).bind fun x42 =>
 (vOneV x37).bind fun y45 =>
 (vOneV x40).bind fun y46 =>
 (vOneV x42).bind fun y47 =>
 (vOneV (strip (v19 1))).bind fun y48 =>
 (lpW' impl_DateOf_l8 [x31, (v19 2), (v19 3), (v19 4), (v19 5), (v19 6), (v19 7), (v19 8), (.int .i64 1970), (.int .i64 1), (.int .i64 0), y45, y46, y47, y48] r17.2.2).bind fun r92 =>
 inN r92.1 [
 gotV 15 r92.2.1 fun v93 =>
 (vBinV (.int .i64) .add (v93 0) (.int .i64 1)).bind fun x95 =>
 (vOneV x95).bind fun y98 =>
 (qc id_impl_DateValid [(frz r92.2.2 (.agg [(strip (v93 8)), (strip (v93 9)), (strip y98), (strip (v93 11)), (strip (v93 12)), (strip (v93 13)), (strip (v93 14))]))]).bind fun x100 =>
 (vUnV .not x100).bind fun x101 =>
 ifVV x101 (
 some ((.tup [(.agg [(.int .i64 0), (.int .i64 0), (.int .i64 0), (.int .i64 0), (.int .i64 0), (.int .i64 0), (.int .i64 0)]), (.bool false)]), r92.2.2)) (
 some ((.tup [(.agg [(strip (v93 8)), (strip (v93 9)), (strip y98), (strip (v93 11)), (strip (v93 12)), (strip (v93 13)), (strip (v93 14))]), (.bool true)]), r92.2.2))])] := (callV_eq vb _ _ _ rfl).trans (by kernel_rfl)
theorem impl_between_eq (a0 a1 a2 : V) (H : VH) : cv id_impl_between [a0, a1, a2] H =
 (vBinV (.int .i64) .geq a0 a1).bind fun x3 =>
 ifGV x3 (
 (vBinV (.int .i64) .leq (strip a0) a2).bind fun x7 =>
 some (x7, H)) (
 some ((.bool false), H)) := (callV_eq vb _ _ _ rfl).trans (by kernel_rfl)
theorem impl_isZone_eq (a0 : V) (H : VH) : cv id_impl_isZone [a0] H =
 (qc id_impl_between [(frz H a0), (frz H (.int .i64 (-720))), (frz H (.int .i64 840))]).bind fun x2 =>
 some (x2, H) := (callV_eq vb _ _ _ rfl).trans (by kernel_rfl)
theorem impl_DaysOf_eq (a0 a1 : V) (H : VH) : cv id_impl_DaysOf [a0, a1] H =
 (id (
 (vBinV (.int .i64) .lss a0 (.int .i64 1970)).bind fun x2 =>
 ifGV x2 (
 some (0, [(.int .i64 0)], H)) (
 (vBinV (.int .i64) .gtr (strip a0) (.int .i64 2099)).bind fun x7 =>
 ifVV x7 (
 some (0, [(.int .i64 0)], H)) (
 some (1, [(strip (strip a0)), a1], H))) : Option (Nat × List V × VH))).bind fun r10 =>
 inN r10.1 [
 gotV 1 r10.2.1 fun v11 =>
 some ((v11 0), r10.2.2),
 gotV 2 r10.2.1 fun v12 =>
 (id (
 (vBinV (.int .i64) .eql (v12 1) (.int .i64 1)).bind fun x14 =>
 ifVV x14 (
 some (0, [(v12 0), (v12 1), x14], r10.2.2)) (
 (vBinV (.int .i64) .eql (v12 1) (.int .i64 3)).bind fun x16 =>
 ifVV x16 (
 some (0, [(v12 0), (v12 1), x16], r10.2.2)) (
 (vBinV (.int .i64) .eql (v12 1) (.int .i64 5)).bind fun x18 =>
 ifVV x18 (
 some (0, [(v12 0), (v12 1), x18], r10.2.2)) (
 (vBinV (.int .i64) .eql (v12 1) (.int .i64 7)).bind fun x20 =>
 ifVV x20 (
 some (0, [(v12 0), (v12 1), x20], r10.2.2)) (
 (vBinV (.int .i64) .eql (v12 1) (.int .i64 8)).bind fun x22 =>
 ifVV x22 (
 some (0, [(v12 0), (v12 1), x22], r10.2.2)) (
 (vBinV (.int .i64) .eql (v12 1) (.int .i64 10)).bind fun x24 =>
 ifVV x24 (
 some (0, [(v12 0), (v12 1), x24], r10.2.2)) (
 (vBinV (.int .i64) .eql (v12 1) (.int .i64 12)).bind fun x26 =>
 some (0, [(v12 0), (v12 1), x26], r10.2.2))))))) : Option (Nat × List V × VH))).bind fun r28 =>
 inN r28.1 [
 gotV 3 r28.2.1 fun v29 =>
 ifVV (v29 2) (
 some ((.int .i64 31), r28.2.2)) (
 (id (
 (vBinV (.int .i64) .eql (v29 1) (.int .i64 4)).bind fun x31 =>
 ifVV x31 (
 some (0, [(v29 0), (v29 1), x31], r28.2.2)) (
 (vBinV (.int .i64) .eql (v29 1) (.int .i64 6)).bind fun x33 =>
 ifVV x33 (
 some (0, [(v29 0), (v29 1), x33], r28.2.2)) (
 (vBinV (.int .i64) .eql (v29 1) (.int .i64 9)).bind fun x35 =>
 ifVV x35 (
 some (0, [(v29 0), (v29 1), x35], r28.2.2)) (
 (vBinV (.int .i64) .eql (v29 1) (.int .i64 11)).bind fun x37 =>
 some (0, [(v29 0), (v29 1), x37], r28.2.2)))) : Option (Nat × List V × VH))).bind fun r39 =>
 inN r39.1 [
 gotV 3 r39.2.1 fun v40 =>
 ifVV (v40 2) (
 some ((.int .i64 30), r39.2.2)) (
 (vBinV (.int .i64) .eql (v40 1) (.int .i64 2)).bind fun x42 =>
 ifVV x42 (
 (vBinV (.int .i64) .rem (v40 0) (.int .i64 4)).bind fun x45 =>
 (vBinV (.int .i64) .eql x45 (.int .i64 0)).bind fun x46 =>
 ifGV x46 (
 (vBinV (.int .i64) .rem (strip (v40 0)) (.int .i64 100)).bind fun x49 =>
 (vBinV (.int .i64) .neq x49 (.int .i64 0)).bind fun x50 =>
 ifGV x50 (
 some ((.int .i64 29), r39.2.2)) (
 (vBinV (.int .i64) .rem (strip (strip (v40 0))) (.int .i64 400)).bind fun x56 =>
 (vBinV (.int .i64) .eql x56 (.int .i64 0)).bind fun x57 =>
 ifVV x57 (
 some ((.int .i64 29), r39.2.2)) (
 some ((.int .i64 28), r39.2.2)))) (
 (vBinV (.int .i64) .rem (strip (v40 0)) (.int .i64 400)).bind fun x64 =>
 (vBinV (.int .i64) .eql x64 (.int .i64 0)).bind fun x65 =>
 ifVV x65 (
 some ((.int .i64 29), r39.2.2)) (
 some ((.int .i64 28), r39.2.2)))) (
 some ((.int .i64 0), r39.2.2)))])]] := (callV_eq vb _ _ _ rfl).trans (by kernel_rfl)
theorem impl_DateValid_eq (a0 : V) (H : VH) : cv id_impl_DateValid [a0] H =
 (aggNV 7 a0).bind fun c1 =>
 (qc id_impl_DaysOf [(frz H (strip (c1.getD 0 .nilp))), (frz H (strip (c1.getD 1 .nilp)))]).bind fun x9 =>
 (qc id_impl_between [(frz H (strip (c1.getD 2 .nilp))), (frz H (.int .i64 1)), (frz H x9)]).bind fun x10 =>
 ifGV x10 (
 (qc id_impl_between [(frz H (strip (c1.getD 3 .nilp))), (frz H (.int .i64 0)), (frz H (.int .i64 23))]).bind fun x14 =>
 ifGV x14 (
 (qc id_impl_between [(frz H (strip (c1.getD 4 .nilp))), (frz H (.int .i64 0)), (frz H (.int .i64 59))]).bind fun x19 =>
 ifGV x19 (
 (qc id_impl_between [(frz H (strip (c1.getD 5 .nilp))), (frz H (.int .i64 0)), (frz H (.int .i64 59))]).bind fun x24 =>
 ifGV x24 (
 (qc id_impl_isZone [(frz H (strip (c1.getD 6 .nilp)))]).bind fun x29 =>
 ifGV x29 (
 (qc id_impl_Date_seconds [(frz H (.agg [(strip (c1.getD 0 .nilp)), (strip (c1.getD 1 .nilp)), (strip (c1.getD 2 .nilp)), (strip (c1.getD 3 .nilp)), (strip (c1.getD 4 .nilp)), (strip (c1.getD 5 .nilp)), (strip (c1.getD 6 .nilp))]))]).bind fun x33 =>
 (qc id_impl_between [(frz H x33), (frz H (.int .i64 0)), (frz H (.int .i64 4102444799))]).bind fun x34 =>
 some (x34, H)) (
 some ((.bool false), H))) (
 some ((.bool false), H))) (
 some ((.bool false), H))) (
 some ((.bool false), H))) (
 some ((.bool false), H)) := (callV_eq vb _ _ _ rfl).trans (by kernel_rfl)
theorem impl_Date_seconds_eq (a0 : V) (H : VH) : cv id_impl_Date_seconds [a0] H =
 (aggNV 7 a0).bind fun c1 =>
 (qc id_impl_daysBefore [(frz H (strip (c1.getD 0 .nilp))), (frz H (strip (c1.getD 1 .nilp))), (frz H (strip (c1.getD 2 .nilp)))]).bind fun x9 =>
 (vBinV (.int .i64) .mul x9 (.int .i64 86400)).bind fun x10 =>
 (vBinV (.int .i64) .mul (strip (c1.getD 3 .nilp)) (.int .i64 3600)).bind fun x13 =>
 (vBinV (.int .i64) .add x10 x13).bind fun x14 =>
 (vBinV (.int .i64) .mul (strip (c1.getD 4 .nilp)) (.int .i64 60)).bind fun x17 =>
 (vBinV (.int .i64) .add x14 x17).bind fun x18 =>
 (vBinV (.int .i64) .add x18 (strip (c1.getD 5 .nilp))).bind fun x21 =>
 (vBinV (.int .i64) .mul (strip (c1.getD 6 .nilp)) (.int .i64 60)).bind fun x24 =>
 (vBinV (.int .i64) .sub x21 x24).bind fun x25 =>
 some (x25, H) := (callV_eq vb _ _ _ rfl).trans (by kernel_rfl)
noncomputable def impl_daysBefore_l6 : List V -> VH -> Option (Option Nat × List V × VH) := roundV (vb.ctx cv lpW') (vb.b.ann 97) (vb.takes 97) ⟨⟨[0, 1, 7, 8, 9], [], []⟩, [(.exit 2, ⟨[0, 1, 7, 8], [], []⟩)]⟩ (loopIn Tryz.f97 6)
noncomputable def impl_daysBefore_l3 : List V -> VH -> Option (Option Nat × List V × VH) := roundV (vb.ctx cv lpW') (vb.b.ann 97) (vb.takes 97) ⟨⟨[0, 1, 7, 8], [], []⟩, [(.exit 0, ⟨[7], [], []⟩)]⟩ (loopIn Tryz.f97 3)
theorem impl_daysBefore_l6_eq (v0 v1 v2 v3 v4 : V) (H : VH) : impl_daysBefore_l6 [v0, v1, v2, v3, v4] H =
 (id (
 (vBinV (.int .i64) .leq v4 (.int .i64 12)).bind fun x10 =>
 ifGV x10 (
 (vBinV (.int .i64) .lss v3 v0).bind fun x14 =>
 ifGV x14 (
 some (0, [(strip v0), v1, v2, (strip v3), (strip v4)], H)) (
 (vBinV (.int .i64) .lss (strip v4) v1).bind fun x20 =>
 ifVV x20 (
 some (0, [(strip v0), (strip v1), v2, (strip v3), (strip (strip v4))], H)) (
 some (1, [(strip v0), (strip v1), v2, (strip v3)], H)))) (
 some (1, [v0, v1, v2, v3], H)) : Option (Nat × List V × VH))).bind fun r24 =>
 inN r24.1 [
 gotV 5 r24.2.1 fun v25 =>
 (qc id_impl_DaysOf [(frz r24.2.2 (v25 3)), (frz r24.2.2 (v25 4))]).bind fun x29 =>
 (vBinV (.int .i64) .add (v25 2) x29).bind fun x30 =>
 (vBinV (.int .i64) .add (strip (v25 4)) (.int .i64 1)).bind fun x33 =>
 some (none, [(v25 0), (v25 1), x30, (strip (v25 3)), x33], r24.2.2),
 gotV 4 r24.2.1 fun v35 =>
 some (some 0, [(v35 0), (v35 1), (v35 2), (v35 3)], r24.2.2)] := by kernel_rfl
theorem impl_daysBefore_l3_eq (v0 v1 v2 v3 : V) (H : VH) : impl_daysBefore_l3 [v0, v1, v2, v3] H =
 (vBinV (.int .i64) .leq v3 v0).bind fun x7 =>
 ifVV x7 (
 (lpW' impl_daysBefore_l6 [(strip v0), v1, v2, (strip v3), (.int .i64 1)] H).bind fun r36 =>
 inN r36.1 [
 gotV 4 r36.2.1 fun v37 =>
 (vBinV (.int .i64) .add (v37 3) (.int .i64 1)).bind fun x39 =>
 some (none, [(v37 0), (v37 1), (v37 2), x39], r36.2.2)]) (
 some (some 0, [v2], H)) := by kernel_rfl
theorem impl_daysBefore_eq (a0 a1 a2 : V) (H : VH) : cv id_impl_daysBefore [a0, a1, a2] H =
 (vBinV (.int .i64) .sub a2 (.int .i64 1)).bind fun x2 =>
 (lpW' impl_daysBefore_l3 [a0, a1, x2, (.int .i64 1970)] H).bind fun r41 =>
 inN r41.1 [
 gotV 1 r41.2.1 fun v42 =>
 some ((v42 0), r41.2.2)] := (callV_eq vb _ _ _ rfl).trans (by kernel_rfl)
noncomputable def impl_CountHeld_l5 : List V -> VH -> Option (Option Nat × List V × VH) := roundV (vb.ctx cv lpW') (vb.b.ann 150) (vb.takes 150) ⟨⟨[3, 9, 10, 11], [], []⟩, [(.exit 0, ⟨[3], [], []⟩)]⟩ (loopIn Tryz.f150 5)
noncomputable def impl_decimal_l2 : List V -> VH -> Option (Option Nat × List V × VH) := roundV (vb.ctx cv lpW') (vb.b.ann 49) (vb.takes 49) ⟨⟨[0, 1, 5], [], []⟩, [(.exit 0, ⟨[5], [], []⟩)]⟩ (loopIn Tryz.f49 2)
noncomputable def impl_gate_take_l7 : List V -> VH -> Option (Option Nat × List V × VH) := roundV (vb.ctx cv lpW') (vb.b.ann 120) (vb.takes 120) ⟨⟨[8, 32, 33, 34], [], []⟩, [(.exit 0, ⟨[8], [], []⟩)]⟩ (loopIn Tryz.f120 7)
end Go.Proofs.YtpmpggihngmnoaaGreatDoor.Q
