/- What a call of each function comes to. -/
import Derived.Test.YtncekccimhohgaaGreatDoorScriptClearBaseZ
namespace Go.Proofs.YtncekccimhohgaaGreatDoor.Q
open Go Go.AM Go.Proofs
set_option linter.unusedVariables false
set_option maxRecDepth 100000
theorem laws_FnScriptClear_eq (a0 : V) (H : VH) : cv id_laws_FnScriptClear [a0] H =
 (vLenVV (strip a0)).bind fun x2 =>
 (vBinV (.int .i64) .gtr x2 (.int .i64 1048576)).bind fun x3 =>
 ifVV x3 (
 some ((.bool true), H)) (
 (cv id_spec_DrawFormatDate [a0] H).bind fun r7 =>
 (aggNV 7 r7.1).bind fun c10 =>
 (qc id_impl_FormatDate [(frz r7.2 (.agg [(strip (c10.getD 0 .nilp)), (strip (c10.getD 1 .nilp)), (strip (c10.getD 2 .nilp)), (strip (c10.getD 3 .nilp)), (strip (c10.getD 4 .nilp)), (strip (c10.getD 5 .nilp)), (strip (c10.getD 6 .nilp))]))]).bind fun x12 =>
 (id (
 (qc id_spec_FormatDate [(frz r7.2 (.agg [(strip (c10.getD 0 .nilp)), (strip (c10.getD 1 .nilp)), (strip (c10.getD 2 .nilp)), (strip (c10.getD 3 .nilp)), (strip (c10.getD 4 .nilp)), (strip (c10.getD 5 .nilp)), (strip (c10.getD 6 .nilp))]))]).bind fun x16 =>
 (vBinV .str .neq x12 x16).bind fun x17 =>
 ifGV x17 (
 (qc id_spec_FormatDate [(frz r7.2 (.agg [(strip (c10.getD 0 .nilp)), (strip (c10.getD 1 .nilp)), (strip (c10.getD 2 .nilp)), (strip (c10.getD 3 .nilp)), (strip (c10.getD 4 .nilp)), (strip (c10.getD 5 .nilp)), (strip (c10.getD 6 .nilp))]))]).bind fun x22 =>
 (vBinV .str .eql (strip x12) x22).bind fun x23 =>
 some (0, [x23], r7.2)) (
 (vBinV .str .eql (strip x12) (.str [])).bind fun x26 =>
 ifVV x26 (
 (qc id_spec_FormatDate [(frz r7.2 (.agg [(strip (c10.getD 0 .nilp)), (strip (c10.getD 1 .nilp)), (strip (c10.getD 2 .nilp)), (strip (c10.getD 3 .nilp)), (strip (c10.getD 4 .nilp)), (strip (c10.getD 5 .nilp)), (strip (c10.getD 6 .nilp))]))]).bind fun x30 =>
 (vBinV .str .eql (strip (strip x12)) x30).bind fun x31 =>
 some (0, [x31], r7.2)) (
 some (1, [(strip (strip x12))], r7.2))) : Option (Nat × List V × VH))).bind fun r33 =>
 inN r33.1 [
 gotV 1 r33.2.1 fun v34 =>
 some ((v34 0), r33.2.2),
 gotV 1 r33.2.1 fun v35 =>
 (vBinV .str .add (.str [98, 111, 120, 32, 97, 64, 98, 10, 100, 97, 116, 101, 32]) (v35 0)).bind fun x37 =>
 (vBinV .str .add x37 (.str [10, 115, 97, 121, 32, 72, 69, 76, 79, 32, 120, 10, 99, 108, 101, 97, 114, 10, 98, 111, 120, 32, 97, 64, 98, 10, 115, 97, 121, 32, 77, 65, 73, 76, 32, 70, 82, 79, 77, 58, 60, 62, 10, 100, 111, 110, 101, 10])).bind fun x38 =>
 (qc id_impl_RunScript [(frz r33.2.2 x38)]).bind fun x39 =>
 (vBinV .str .add (.str [111, 107, 10]) (strip (v35 0))).bind fun x43 =>
 (vBinV .str .add x43 (.str [10, 50, 53, 48, 32, 111, 107, 10, 111, 107, 10, 111, 107, 10, 53, 48, 51, 32, 110, 111, 116, 32, 110, 111, 119, 10, 100, 111, 110, 101, 32, 48, 10])).bind fun x44 =>
 (vBinV .str .eql x39 x44).bind fun x45 =>
 some (x45, r33.2.2)]) := (callV_eq vb _ _ _ rfl).trans (by kernel_rfl)
theorem spec_DrawFormatDate_eq (a0 : V) (H : VH) : cv id_spec_DrawFormatDate [a0] H =
 (cv id_spec_DrawDateValid [a0] H).bind fun r3 =>
 (aggNV 7 r3.1).bind fun c5 =>
 some ((.agg [(c5.getD 0 .nilp), (c5.getD 1 .nilp), (c5.getD 2 .nilp), (c5.getD 3 .nilp), (c5.getD 4 .nilp), (c5.getD 5 .nilp), (c5.getD 6 .nilp)]), r3.2) := (callV_eq vb _ _ _ rfl).trans (by kernel_rfl)
theorem spec_DrawDateValid_eq (a0 : V) (H : VH) : cv id_spec_DrawDateValid [a0] H =
 (cv id_spec_l13Open [a0] H).bind fun r3 =>
 (cv id_spec_l4Draw [(strip (strip (strip r3.1)))] r3.2).bind fun r9 =>
 (cv id_spec_l4Wrong [(strip (strip r3.1)), (strip r9.1)] r9.2).bind fun r11 =>
 (cv id_spec_l4Wrong [(strip r3.1), (strip r11.1)] r11.2).bind fun r13 =>
 (aggNV 7 r13.1).bind fun c15 =>
 some ((.agg [(c15.getD 0 .nilp), (c15.getD 1 .nilp), (c15.getD 2 .nilp), (c15.getD 3 .nilp), (c15.getD 4 .nilp), (c15.getD 5 .nilp), (c15.getD 6 .nilp)]), r13.2) := (callV_eq vb _ _ _ rfl).trans (by kernel_rfl)
theorem spec_l13Open_eq (a0 : V) (H : VH) : cv id_spec_l13Open [a0] H =
 (id (
 (vLenVV (strip a0)).bind fun x2 =>
 (vBinV (.int .i64) .gtr x2 (.int .i64 2000)).bind fun x3 =>
 ifVV x3 (
 (vSliceVV 1 (strip a0) none (some (.int .i64 2000))).bind fun x5 =>
 some (0, [x5], H)) (
 some (0, [a0], H)) : Option (Nat × List V × VH))).bind fun r7 =>
 inN r7.1 [
 gotV 1 r7.2.1 fun v8 =>
 (vOneV (v8 0)).bind fun y11 =>
 some ((.ptr r7.2.2.length 0), (r7.2.2 ++ [[y11, (.int .i64 0)]]))] := (callV_eq vb _ _ _ rfl).trans (by kernel_rfl)
theorem spec_l4Draw_eq (a0 : V) (H : VH) : cv id_spec_l4Draw [a0] H =
 (cv id_spec_l13Rd_num [(strip a0), (.sl false (stripLL [[(.int .i64 1767596889)], [(.int .i64 951782400)], [(.int .i64 86400)], [(.int .i64 1000000000)], [(.int .i64 4102358400)], [(.int .i64 1709164800)], [(.int .i64 1709251199)]]))] H).bind fun r4 =>
 (cv id_spec_l13Rd_pick [(strip (strip a0)), (.int .i64 100000)] r4.2).bind fun r7 =>
 (vBinV (.int .i64) .add r4.1 r7.1).bind fun x8 =>
 (cv id_spec_l13Rd_num [(strip (strip (strip a0))), (.sl false (stripLL [[(.int .i64 0)], [(.int .i64 60)], [(.int .i64 (-480))], [(.int .i64 330)], [(.int .i64 0)], [(.int .i64 840)], [(.int .i64 (-720))]]))] r7.2).bind fun r12 =>
 (pc id_spec_DateOf [(frz r12.2 x8), (frz r12.2 r12.1)]).bind fun x13 =>
 (vExtV x13 0).bind fun x15 =>
 (vExtV x13 1).bind fun x16 =>
 (aggNV 7 (strip x15)).bind fun c19 =>
 some ((.agg [(strip (c19.getD 0 .nilp)), (strip (c19.getD 1 .nilp)), (strip (c19.getD 2 .nilp)), (strip (c19.getD 3 .nilp)), (strip (c19.getD 4 .nilp)), (strip (c19.getD 5 .nilp)), (strip (c19.getD 6 .nilp))]), r12.2) := (callV_eq vb _ _ _ rfl).trans (by kernel_rfl)
theorem spec_l13Rd_num_eq (a0 a1 : V) (H : VH) : cv id_spec_l13Rd_num [a0, a1] H =
 (vLenVV (strip a1)).bind fun x4 =>
 (cv id_spec_l13Rd_pick [(strip a0), (strip x4)] H).bind fun r6 =>
 (vIdxV 1 (strip a1) r6.1).bind fun x7 =>
 (ldO globB false false 1 x7 r6.2).bind fun r9 =>
 some (r9.1, r9.2) := (callV_eq vb _ _ _ rfl).trans (by kernel_rfl)
theorem spec_l13Rd_pick_eq (a0 a1 : V) (H : VH) : cv id_spec_l13Rd_pick [a0, a1] H =
 (vNilV (strip a0)).bind fun x3 =>
 (vOffV x3 1).bind fun x4 =>
 (ldO globB false false 1 x4 H).bind fun r6 =>
 (vBinV (.int .i64) .add r6.1 (.int .i64 1)).bind fun x7 =>
 (vNilV a0).bind fun x8 =>
 (vOffV x8 1).bind fun x9 =>
 (vOneV x7).bind fun y11 =>
 (stO x9 [y11] r6.2).bind fun H12 =>
 (id (
 (vBinV (.int .i64) .lss a1 (.int .i64 1)).bind fun x14 =>
 ifGV x14 (
 some (0, [(.int .i64 0)], H12)) (
 (vNilV (strip (strip a0))).bind fun x19 =>
 (vOffV x19 0).bind fun x20 =>
 (ldO globB false false 1 x20 H12).bind fun r22 =>
 (vLenVV r22.1).bind fun x23 =>
 (vBinV (.int .i64) .eql x23 (.int .i64 0)).bind fun x24 =>
 ifVV x24 (
 some (0, [(.int .i64 0)], r22.2)) (
 some (1, [(strip (strip (strip a0))), (strip a1)], r22.2))) : Option (Nat × List V × VH))).bind fun r27 =>
 inN r27.1 [
 gotV 1 r27.2.1 fun v28 =>
 some ((v28 0), r27.2.2),
 gotV 2 r27.2.1 fun v29 =>
 (vNilV (v29 0)).bind fun x31 =>
 (vOffV x31 1).bind fun x32 =>
 (ldO globB false false 1 x32 r27.2.2).bind fun r34 =>
 (vBinV (.int .i64) .sub r34.1 (.int .i64 1)).bind fun x35 =>
 (vNilV (strip (v29 0))).bind fun x39 =>
 (vOffV x39 0).bind fun x40 =>
 (ldO globB false false 1 x40 r34.2).bind fun r42 =>
 (vLenVV r42.1).bind fun x43 =>
 (vBinV (.int .i64) .lss x35 x43).bind fun x44 =>
 ifVV x44 (
 (vNilV (strip (strip (v29 0)))).bind fun x46 =>
 (vOffV x46 0).bind fun x47 =>
 (ldO globB false false 1 x47 r42.2).bind fun r49 =>
 (vIdxV 1 r49.1 (strip x35)).bind fun x51 =>
 (ldO globB false false 1 x51 r49.2).bind fun r53 =>
 (vConvV .i64 r53.1).bind fun x54 =>
 (vBinV (.int .i64) .rem x54 (v29 1)).bind fun x56 =>
 some (x56, r53.2)) (
 (vNilV (strip (strip (v29 0)))).bind fun x59 =>
 (vOffV x59 0).bind fun x60 =>
 (ldO globB false false 1 x60 r42.2).bind fun r62 =>
 (vNilV (strip (strip (strip (v29 0))))).bind fun x65 =>
 (vOffV x65 0).bind fun x66 =>
 (ldO globB false false 1 x66 r62.2).bind fun r68 =>
 (vLenVV r68.1).bind fun x69 =>
 (vBinV (.int .i64) .rem (strip x35) x69).bind fun x70 =>
 (vIdxV 1 r62.1 x70).bind fun x71 =>
 (ldO globB false false 1 x71 r68.2).bind fun r73 =>
 (vConvV .i64 r73.1).bind fun x74 =>
 (vBinV (.int .i64) .mul x74 (.int .i64 131)).bind fun x75 =>
 (vNilV (strip (strip (strip (strip (v29 0)))))).bind fun x77 =>
 (vOffV x77 0).bind fun x78 =>
 (ldO globB false false 1 x78 r73.2).bind fun r80 =>
 (vBinV (.int .i64) .mul (strip (strip x35)) (.int .i64 7)).bind fun x82 =>
 (vBinV (.int .i64) .add x82 (.int .i64 3)).bind fun x83 =>
 (vNilV (strip (strip (strip (strip (strip (v29 0))))))).bind fun x85 =>
 (vOffV x85 0).bind fun x86 =>
 (ldO globB false false 1 x86 r80.2).bind fun r88 =>
 (vLenVV r88.1).bind fun x89 =>
 (vBinV (.int .i64) .rem x83 x89).bind fun x90 =>
 (vIdxV 1 r80.1 x90).bind fun x91 =>
 (ldO globB false false 1 x91 r88.2).bind fun r93 =>
 (vConvV .i64 r93.1).bind fun x94 =>
 (vBinV (.int .i64) .mul x94 (.int .i64 1117)).bind fun x95 =>
 (vBinV (.int .i64) .add x75 x95).bind fun x96 =>
 (vBinV (.int .i64) .mul (strip (strip (strip x35))) (.int .i64 29)).bind fun x98 =>
 (vBinV (.int .i64) .add x96 x98).bind fun x99 =>
 (vNilV (strip (strip (strip (strip (strip (strip (v29 0)))))))).bind fun x102 =>
 (vOffV x102 0).bind fun x103 =>
 (ldO globB false false 1 x103 r93.2).bind fun r105 =>
 (vLenVV r105.1).bind fun x106 =>
 (vBinV (.int .i64) .quo (strip (strip (strip (strip x35)))) x106).bind fun x107 =>
 (vBinV (.int .i64) .mul x107 (.int .i64 53)).bind fun x108 =>
 (vBinV (.int .i64) .add x99 x108).bind fun x109 =>
 (vBinV (.int .i64) .quo (strip x109) (.int .i64 64)).bind fun x113 =>
 (vBinV (.int .i64) .xor x109 x113).bind fun x114 =>
 (vBinV (.int .i64) .rem x114 (v29 1)).bind fun x118 =>
 some (x118, r105.2))] := (callV_eq vb _ _ _ rfl).trans (by kernel_rfl)
noncomputable def spec_DateOf_l9 : List V -> VH -> Option (Option Nat × List V × VH) := roundV (vb.ctx cv lpW') (vb.b.ann 155) (vb.takes 155) ⟨⟨[7], [(4, (4, 0)), (9, (9, 0))], [(4, 7), (9, 7)]⟩, [(.exit 0, ⟨[7], [(4, (4, 0)), (9, (9, 0))], [(4, 7), (9, 7)]⟩)]⟩ (loopIn Tryz.f155 9)
theorem spec_DateOf_l9_eq (v0 v1 v2 v3 v4 v5 v6 v7 v8 v9 v10 v11 v12 v13 v14 : V) (H : VH) : spec_DateOf_l9 [v0, v1, v2, v3, v4, v5, v6, v7, v8, v9, v10, v11, v12, v13, v14] H =
 (qc id_spec_DaysOf [(frz H (strip v8)), (frz H (strip v9))]).bind fun x76 =>
 (vBinV (.int .i64) .geq v0 x76).bind fun x77 =>
 ifVV x77 (
 (qc id_spec_DaysOf [(frz H (strip v8)), (frz H (strip v9))]).bind fun x83 =>
 (vBinV (.int .i64) .sub (strip v0) x83).bind fun x84 =>
 (vBinV (.int .i64) .add (strip v9) (.int .i64 1)).bind fun x88 =>
 (vOneV x88).bind fun y91 =>
 (vBinV (.int .i64) .eql (strip y91) (.int .i64 13)).bind fun x94 =>
 ifVV x94 (
 (vBinV (.int .i64) .add (strip v8) (.int .i64 1)).bind fun x99 =>
 (vOneV x99).bind fun y102 =>
 some (none, [x84, v1, v2, v3, v4, v5, v6, v7, y102, (.int .i64 1), v10, v11, v12, v13, v14], H)) (
 some (none, [x84, v1, v2, v3, v4, v5, v6, v7, v8, y91, v10, v11, v12, v13, v14], H))) (
 some (some 0, [(strip v0), v1, v2, v3, v4, v5, v6, v7, v8, v9, v10, v11, v12, v13, v14], H)) := by kernel_rfl
theorem spec_DateOf_eq (a0 a1 : V) (H : VH) : cv id_spec_DateOf [a0, a1] H =
 (id (
 (vBinV (.int .i64) .lss a0 (.int .i64 0)).bind fun x3 =>
 ifGV x3 (
 some (0, [(.bool false), (.int .i64 0), (.int .i64 0), (.int .i64 0), (.int .i64 0), (.int .i64 0), (.int .i64 0), (.int .i64 0)], H)) (
 (vBinV (.int .i64) .geq (strip a0) (.int .i64 4102444800)).bind fun x12 =>
 ifGV x12 (
 some (0, [(.bool false), (.int .i64 0), (.int .i64 0), (.int .i64 0), (.int .i64 0), (.int .i64 0), (.int .i64 0), (.int .i64 0)], H)) (
 (qc id_spec_l4Zone [(frz H a1)]).bind fun x20 =>
 (vUnV .not x20).bind fun x21 =>
 ifVV x21 (
 some (0, [(.bool false), (.int .i64 0), (.int .i64 0), (.int .i64 0), (.int .i64 0), (.int .i64 0), (.int .i64 0), (.int .i64 0)], H)) (
 some (1, [(strip (strip a0)), (strip a1), (.int .i64 0), (.int .i64 0), (.int .i64 0), (.int .i64 0), (.int .i64 0), (.int .i64 0), (.int .i64 0)], H)))) : Option (Nat × List V × VH))).bind fun r26 =>
 inN r26.1 [
 gotV 8 r26.2.1 fun v27 =>
 some ((.tup [(.agg [(v27 1), (v27 2), (v27 3), (v27 4), (v27 5), (v27 6), (v27 7)]), (v27 0)]), r26.2.2),
 gotV 9 r26.2.1 fun v28 =>
 (vBinV (.int .i64) .mul (v28 1) (.int .i64 60)).bind fun x31 =>
 (vBinV (.int .i64) .add (v28 0) x31).bind fun x32 =>
 (id (
 (vBinV (.int .i64) .lss x32 (.int .i64 0)).bind fun x35 =>
 ifGV x35 (
 some (0, [(.bool false), (.int .i64 0), (.int .i64 0), (.int .i64 0), (.int .i64 0), (.int .i64 0), (.int .i64 0), (.int .i64 0)], r26.2.2)) (
 (vBinV (.int .i64) .geq (strip x32) (.int .i64 4102444800)).bind fun x42 =>
 ifVV x42 (
 some (0, [(.bool false), (.int .i64 0), (.int .i64 0), (.int .i64 0), (.int .i64 0), (.int .i64 0), (.int .i64 0), (.int .i64 0)], r26.2.2)) (
 some (1, [(strip (v28 1)), (strip (strip x32)), (v28 2), (v28 3), (v28 4), (v28 5), (v28 6), (v28 7), (v28 8)], r26.2.2))) : Option (Nat × List V × VH))).bind fun r47 =>
 inN r47.1 [
 gotV 8 r47.2.1 fun v48 =>
 some ((.tup [(.agg [(v48 1), (v48 2), (v48 3), (v48 4), (v48 5), (v48 6), (v48 7)]), (v48 0)]), r47.2.2),
 gotV 9 r47.2.1 fun v49 =>
 (vBinV (.int .i64) .quo (v49 1) (.int .i64 86400)).bind fun x51 =>
 (vBinV (.int .i64) .rem (strip (v49 1)) (.int .i64 86400)).bind fun x54 =>
 (vBinV (.int .i64) .quo x54 (.int .i64 3600)).bind fun x57 =>
 (vBinV (.int .i64) .quo (strip x54) (.int .i64 60)).bind fun x59 =>
 (vBinV (.int .i64) .rem x59 (.int .i64 60)).bind fun x60 =>
 (vBinV (.int .i64) .rem (strip (strip x54)) (.int .i64 60)).bind fun x62 =>
 (vOneV x57).bind fun y65 =>
 (vOneV x60).bind fun y66 =>
 (vOneV x62).bind fun y67 =>
 (vOneV (v49 0)).bind fun y68 =>
 (lpW' spec_DateOf_l9 [x51, (v49 2), (v49 3), (v49 4), (v49 5), (v49 6), (v49 7), (v49 8), (.int .i64 1970), (.int .i64 1), (.int .i64 0), y65, y66, y67, y68] r47.2.2).bind fun r103 =>
 inN r103.1 [
 gotV 15 r103.2.1 fun v104 =>
 (vBinV (.int .i64) .add (v104 0) (.int .i64 1)).bind fun x106 =>
 (vOneV x106).bind fun y109 =>
 some ((.tup [(.agg [(strip (v104 8)), (strip (v104 9)), (strip y109), (strip (v104 11)), (strip (v104 12)), (strip (v104 13)), (strip (v104 14))]), (.bool true)]), r103.2.2)]]] := (callV_eq vb _ _ _ rfl).trans (by kernel_rfl)
theorem spec_l4Zone_eq (a0 : V) (H : VH) : cv id_spec_l4Zone [a0] H =
 (vBinV (.int .i64) .geq a0 (.int .i64 (-720))).bind fun x2 =>
 ifGV x2 (
 (vBinV (.int .i64) .leq (strip a0) (.int .i64 840)).bind fun x5 =>
 some (x5, H)) (
 some ((.bool false), H)) := (callV_eq vb _ _ _ rfl).trans (by kernel_rfl)
theorem spec_DaysOf_eq (a0 a1 : V) (H : VH) : cv id_spec_DaysOf [a0, a1] H =
 (id (
 (vBinV (.int .i64) .lss a0 (.int .i64 1970)).bind fun x2 =>
 ifGV x2 (
 some (0, [(.int .i64 0)], H)) (
 (vBinV (.int .i64) .gtr (strip a0) (.int .i64 2099)).bind fun x11 =>
 ifGV x11 (
 some (0, [(.int .i64 0)], H)) (
 (vBinV (.int .i64) .lss a1 (.int .i64 1)).bind fun x19 =>
 ifGV x19 (
 some (0, [(.int .i64 0)], H)) (
 (vBinV (.int .i64) .gtr (strip a1) (.int .i64 12)).bind fun x25 =>
 ifVV x25 (
 some (0, [(.int .i64 0)], H)) (
 some (1, [(strip (strip a0)), (strip (strip a1))], H))))) : Option (Nat × List V × VH))).bind fun r28 =>
 inN r28.1 [
 gotV 1 r28.2.1 fun v29 =>
 some ((v29 0), r28.2.2),
 gotV 2 r28.2.1 fun v30 =>
 (id (
 (vBinV (.int .i64) .eql (v30 1) (.int .i64 2)).bind fun x34 =>
 ifGV x34 (
 (qc id_spec_l4Leap [(frz r28.2.2 (v30 0))]).bind fun x37 =>
 ifVV x37 (
 some (0, [(.int .i64 29)], r28.2.2)) (
 some (1, [(strip (v30 1)), (.sl false (stripLL [[(.int .i64 31)], [(.int .i64 28)], [(.int .i64 31)], [(.int .i64 30)], [(.int .i64 31)], [(.int .i64 30)], [(.int .i64 31)], [(.int .i64 31)], [(.int .i64 30)], [(.int .i64 31)], [(.int .i64 30)], [(.int .i64 31)]]))], r28.2.2))) (
 some (1, [(strip (v30 1)), (.sl false (stripLL [[(.int .i64 31)], [(.int .i64 28)], [(.int .i64 31)], [(.int .i64 30)], [(.int .i64 31)], [(.int .i64 30)], [(.int .i64 31)], [(.int .i64 31)], [(.int .i64 30)], [(.int .i64 31)], [(.int .i64 30)], [(.int .i64 31)]]))], r28.2.2)) : Option (Nat × List V × VH))).bind fun r41 =>
 inN r41.1 [
 gotV 1 r41.2.1 fun v42 =>
 some ((v42 0), r41.2.2),
 gotV 2 r41.2.1 fun v43 =>
 (vBinV (.int .i64) .sub (v43 0) (.int .i64 1)).bind fun x46 =>
 (vIdxV 1 (strip (v43 1)) x46).bind fun x47 =>
 (ldO globB false false 1 x47 r41.2.2).bind fun r49 =>
 some (r49.1, r49.2)]] := (callV_eq vb _ _ _ rfl).trans (by kernel_rfl)
theorem spec_l4Leap_eq (a0 : V) (H : VH) : cv id_spec_l4Leap [a0] H =
 (vBinV (.int .i64) .rem a0 (.int .i64 4)).bind fun x2 =>
 (vBinV (.int .i64) .eql x2 (.int .i64 0)).bind fun x3 =>
 ifGV x3 (
 (vBinV (.int .i64) .rem (strip a0) (.int .i64 100)).bind fun x6 =>
 (vBinV (.int .i64) .neq x6 (.int .i64 0)).bind fun x7 =>
 ifGV x7 (
 some ((.bool true), H)) (
 (vBinV (.int .i64) .rem (strip (strip a0)) (.int .i64 400)).bind fun x13 =>
 (vBinV (.int .i64) .eql x13 (.int .i64 0)).bind fun x14 =>
 some (x14, H))) (
 some ((.bool false), H)) := (callV_eq vb _ _ _ rfl).trans (by kernel_rfl)
theorem spec_l4Wrong_eq (a0 a1 : V) (H : VH) : cv id_spec_l4Wrong [a0, a1] H =
 (aggNV 7 a1).bind fun c1 =>
 (cv id_spec_l13Rd_pick [(strip a0), (.int .i64 24)] H).bind fun r5 =>
 (vBinV (.int .i64) .eql r5.1 (.int .i64 0)).bind fun x6 =>
 ifVV x6 (
 (cv id_spec_l13Rd_num [(strip (strip a0)), (.sl false (stripLL [[(.int .i64 0)], [(.int .i64 31)], [(.int .i64 32)], [(.int .i64 29)], [(.int .i64 30)]]))] r5.2).bind fun r11 =>
 (vOneV r11.1).bind fun y14 =>
 some ((.agg [(strip (c1.getD 0 .nilp)), (strip (c1.getD 1 .nilp)), (strip y14), (strip (c1.getD 3 .nilp)), (strip (c1.getD 4 .nilp)), (strip (c1.getD 5 .nilp)), (strip (c1.getD 6 .nilp))]), r11.2)) (
 (vBinV (.int .i64) .eql r5.1 (.int .i64 1)).bind fun x17 =>
 ifVV x17 (
 (cv id_spec_l13Rd_num [(strip (strip a0)), (.sl false (stripLL [[(.int .i64 0)], [(.int .i64 13)], [(.int .i64 2)]]))] r5.2).bind fun r22 =>
 (vOneV r22.1).bind fun y25 =>
 some ((.agg [(strip (c1.getD 0 .nilp)), (strip y25), (strip (c1.getD 2 .nilp)), (strip (c1.getD 3 .nilp)), (strip (c1.getD 4 .nilp)), (strip (c1.getD 5 .nilp)), (strip (c1.getD 6 .nilp))]), r22.2)) (
 (vBinV (.int .i64) .eql r5.1 (.int .i64 2)).bind fun x28 =>
 ifVV x28 (
 (cv id_spec_l13Rd_num [(strip (strip a0)), (.sl false (stripLL [[(.int .i64 1969)], [(.int .i64 2100)], [(.int .i64 1970)], [(.int .i64 2099)]]))] r5.2).bind fun r33 =>
 (vOneV r33.1).bind fun y36 =>
 some ((.agg [(strip y36), (strip (c1.getD 1 .nilp)), (strip (c1.getD 2 .nilp)), (strip (c1.getD 3 .nilp)), (strip (c1.getD 4 .nilp)), (strip (c1.getD 5 .nilp)), (strip (c1.getD 6 .nilp))]), r33.2)) (
 (vBinV (.int .i64) .eql r5.1 (.int .i64 3)).bind fun x39 =>
 ifVV x39 (
 (cv id_spec_l13Rd_num [(strip (strip a0)), (.sl false (stripLL [[(.int .i64 24)], [(.int .i64 (-1))], [(.int .i64 0)], [(.int .i64 23)]]))] r5.2).bind fun r44 =>
 (vOneV r44.1).bind fun y47 =>
 some ((.agg [(strip (c1.getD 0 .nilp)), (strip (c1.getD 1 .nilp)), (strip (c1.getD 2 .nilp)), (strip y47), (strip (c1.getD 4 .nilp)), (strip (c1.getD 5 .nilp)), (strip (c1.getD 6 .nilp))]), r44.2)) (
 (vBinV (.int .i64) .eql r5.1 (.int .i64 4)).bind fun x50 =>
 ifVV x50 (
 (cv id_spec_l13Rd_num [(strip (strip a0)), (.sl false (stripLL [[(.int .i64 (-721))], [(.int .i64 841)], [(.int .i64 840)]]))] r5.2).bind fun r55 =>
 (vOneV r55.1).bind fun y58 =>
 some ((.agg [(strip (c1.getD 0 .nilp)), (strip (c1.getD 1 .nilp)), (strip (c1.getD 2 .nilp)), (strip (c1.getD 3 .nilp)), (strip (c1.getD 4 .nilp)), (strip (c1.getD 5 .nilp)), (strip y58)]), r55.2)) (
 (vBinV (.int .i64) .eql r5.1 (.int .i64 5)).bind fun x61 =>
 ifVV x61 (
 (cv id_spec_l13Rd_num [(strip (strip a0)), (.sl false (stripLL [[(.int .i64 60)], [(.int .i64 (-1))]]))] r5.2).bind fun r66 =>
 (vOneV r66.1).bind fun y69 =>
 some ((.agg [(strip (c1.getD 0 .nilp)), (strip (c1.getD 1 .nilp)), (strip (c1.getD 2 .nilp)), (strip (c1.getD 3 .nilp)), (strip (c1.getD 4 .nilp)), (strip y69), (strip (c1.getD 6 .nilp))]), r66.2)) (
 some ((.agg [(strip (c1.getD 0 .nilp)), (strip (c1.getD 1 .nilp)), (strip (c1.getD 2 .nilp)), (strip (c1.getD 3 .nilp)), (strip (c1.getD 4 .nilp)), (strip (c1.getD 5 .nilp)), (strip (c1.getD 6 .nilp))]), r5.2))))))) := (callV_eq vb _ _ _ rfl).trans (by kernel_rfl)
theorem impl_FormatDate_eq (a0 : V) (H : VH) : cv id_impl_FormatDate [a0] H =
 (aggNV 7 a0).bind fun c1 =>
 (qc id_impl_DateValid [(frz H (.agg [(strip (c1.getD 0 .nilp)), (strip (c1.getD 1 .nilp)), (strip (c1.getD 2 .nilp)), (strip (c1.getD 3 .nilp)), (strip (c1.getD 4 .nilp)), (strip (c1.getD 5 .nilp)), (strip (c1.getD 6 .nilp))]))]).bind fun x4 =>
 (vUnV .not x4).bind fun x5 =>
 ifVV x5 (
 some ((.str []), H)) (
 (id (
 (vBinV (.int .i64) .lss (strip (c1.getD 6 .nilp)) (.int .i64 0)).bind fun x12 =>
 ifVV x12 (
 (vUnV .neg (strip (strip (c1.getD 6 .nilp)))).bind fun x14 =>
 some (0, [(.str [32, 45]), x14, (c1.getD 0 .nilp), (c1.getD 1 .nilp), (c1.getD 2 .nilp), (c1.getD 3 .nilp), (c1.getD 4 .nilp), (c1.getD 5 .nilp), (c1.getD 6 .nilp)], H)) (
 some (0, [(.str [32, 43]), (strip (strip (c1.getD 6 .nilp))), (c1.getD 0 .nilp), (c1.getD 1 .nilp), (c1.getD 2 .nilp), (c1.getD 3 .nilp), (c1.getD 4 .nilp), (c1.getD 5 .nilp), (c1.getD 6 .nilp)], H)) : Option (Nat × List V × VH))).bind fun r17 =>
 inN r17.1 [
 gotV 9 r17.2.1 fun v18 =>
 (qc id_impl_WeekdayOf [(frz r17.2.2 (.agg [(strip (v18 2)), (strip (v18 3)), (strip (v18 4)), (strip (v18 5)), (strip (v18 6)), (strip (v18 7)), (strip (v18 8))]))]).bind fun x20 =>
 (vBinV .str .add x20 (.str [44, 32])).bind fun x21 =>
 (qc id_impl_decimal [(frz r17.2.2 (strip (v18 4))), (frz r17.2.2 (.int .i64 1))]).bind fun x24 =>
 (vBinV .str .add x21 x24).bind fun x25 =>
 (vBinV .str .add x25 (.str [32])).bind fun x26 =>
 (vBinV (.int .i64) .sub (strip (v18 3)) (.int .i64 1)).bind fun x29 =>
 (vIdxAV 12 1 (.gp 0 0) x29).bind fun x30 =>
 (ldO globB false false 1 x30 r17.2.2).bind fun r32 =>
 (vBinV .str .add x26 r32.1).bind fun x33 =>
 (vBinV .str .add x33 (.str [32])).bind fun x34 =>
 (qc id_impl_decimal [(frz r32.2 (strip (v18 2))), (frz r32.2 (.int .i64 4))]).bind fun x37 =>
 (vBinV .str .add x34 x37).bind fun x38 =>
 (vBinV .str .add x38 (.str [32])).bind fun x39 =>
 (qc id_impl_decimal [(frz r32.2 (strip (v18 5))), (frz r32.2 (.int .i64 2))]).bind fun x42 =>
 (vBinV .str .add x39 x42).bind fun x43 =>
 (vBinV .str .add x43 (.str [58])).bind fun x44 =>
 (qc id_impl_decimal [(frz r32.2 (strip (v18 6))), (frz r32.2 (.int .i64 2))]).bind fun x47 =>
 (vBinV .str .add x44 x47).bind fun x48 =>
 (vBinV .str .add x48 (.str [58])).bind fun x49 =>
 (qc id_impl_decimal [(frz r32.2 (strip (v18 7))), (frz r32.2 (.int .i64 2))]).bind fun x52 =>
 (vBinV .str .add x49 x52).bind fun x53 =>
 (vBinV .str .add x53 (v18 0)).bind fun x55 =>
 (vBinV (.int .i64) .quo (v18 1) (.int .i64 60)).bind fun x57 =>
 (qc id_impl_decimal [(frz r32.2 x57), (frz r32.2 (.int .i64 2))]).bind fun x58 =>
 (vBinV .str .add x55 x58).bind fun x59 =>
 (vBinV (.int .i64) .rem (strip (v18 1)) (.int .i64 60)).bind fun x61 =>
 (qc id_impl_decimal [(frz r32.2 x61), (frz r32.2 (.int .i64 2))]).bind fun x62 =>
 (vBinV .str .add x59 x62).bind fun x63 =>
 some (x63, r32.2)]) := (callV_eq vb _ _ _ rfl).trans (by kernel_rfl)
theorem impl_DateValid_eq (a0 : V) (H : VH) : cv id_impl_DateValid [a0] H =
 (aggNV 7 a0).bind fun c1 =>
 (qc id_impl_DaysOf [(frz H (strip (c1.getD 0 .nilp))), (frz H (strip (c1.getD 1 .nilp)))]).bind fun x9 =>
 (qc id_impl_between [(frz H (strip (c1.getD 2 .nilp))), (frz H (.int .i64 1)), (frz H x9)]).bind fun x10 =>
 ifGV x10 (
 (qc id_impl_between [(frz H (strip (c1.getD 3 .nilp))), (frz H (.int .i64 0)), (frz H (.int .i64 23))]).bind fun x14 =>
 ifGV x14 (
 (qc id_impl_between [(frz H (strip (c1.getD 4 .nilp))), (frz H (.int .i64 0)), (frz H (.int .i64 59))]).bind fun x19 =>
 ifGV x19 (
 (qc id_impl_between [(frz H (strip (c1.getD 5 .nilp))), (frz H (.int .i64 0)), (frz H (.int .i64 59))]).bind fun x24 =>
 ifGV x24 (
 (qc id_impl_isZone [(frz H (strip (c1.getD 6 .nilp)))]).bind fun x29 =>
 ifGV x29 (
 (qc id_impl_Date_seconds [(frz H (.agg [(strip (c1.getD 0 .nilp)), (strip (c1.getD 1 .nilp)), (strip (c1.getD 2 .nilp)), (strip (c1.getD 3 .nilp)), (strip (c1.getD 4 .nilp)), (strip (c1.getD 5 .nilp)), (strip (c1.getD 6 .nilp))]))]).bind fun x33 =>
 (qc id_impl_between [(frz H x33), (frz H (.int .i64 0)), (frz H (.int .i64 4102444799))]).bind fun x34 =>
 some (x34, H)) (
 some ((.bool false), H))) (
 some ((.bool false), H))) (
 some ((.bool false), H))) (
 some ((.bool false), H))) (
 some ((.bool false), H)) := (callV_eq vb _ _ _ rfl).trans (by kernel_rfl)
theorem impl_DaysOf_eq (a0 a1 : V) (H : VH) : cv id_impl_DaysOf [a0, a1] H =
 (id (
 (vBinV (.int .i64) .lss a0 (.int .i64 1970)).bind fun x2 =>
 ifGV x2 (
 some (0, [(.int .i64 0)], H)) (
 (vBinV (.int .i64) .gtr (strip a0) (.int .i64 2099)).bind fun x7 =>
 ifVV x7 (
 some (0, [(.int .i64 0)], H)) (
 some (1, [(strip (strip a0)), a1], H))) : Option (Nat × List V × VH))).bind fun r10 =>
 inN r10.1 [
 gotV 1 r10.2.1 fun v11 =>
 some ((v11 0), r10.2.2),
 gotV 2 r10.2.1 fun v12 =>
 (id (
 (vBinV (.int .i64) .eql (v12 1) (.int .i64 1)).bind fun x14 =>
 ifVV x14 (
 some (0, [(v12 0), (v12 1), x14], r10.2.2)) (
 (vBinV (.int .i64) .eql (v12 1) (.int .i64 3)).bind fun x16 =>
 ifVV x16 (
 some (0, [(v12 0), (v12 1), x16], r10.2.2)) (
 (vBinV (.int .i64) .eql (v12 1) (.int .i64 5)).bind fun x18 =>
 ifVV x18 (
 some (0, [(v12 0), (v12 1), x18], r10.2.2)) (
 (vBinV (.int .i64) .eql (v12 1) (.int .i64 7)).bind fun x20 =>
 ifVV x20 (
 some (0, [(v12 0), (v12 1), x20], r10.2.2)) (
 (vBinV (.int .i64) .eql (v12 1) (.int .i64 8)).bind fun x22 =>
 ifVV x22 (
 some (0, [(v12 0), (v12 1), x22], r10.2.2)) (
 (vBinV (.int .i64) .eql (v12 1) (.int .i64 10)).bind fun x24 =>
 ifVV x24 (
 some (0, [(v12 0), (v12 1), x24], r10.2.2)) (
 (vBinV (.int .i64) .eql (v12 1) (.int .i64 12)).bind fun x26 =>
 some (0, [(v12 0), (v12 1), x26], r10.2.2))))))) : Option (Nat × List V × VH))).bind fun r28 =>
 inN r28.1 [
 gotV 3 r28.2.1 fun v29 =>
 ifVV (v29 2) (
 some ((.int .i64 31), r28.2.2)) (
 (id (
 (vBinV (.int .i64) .eql (v29 1) (.int .i64 4)).bind fun x31 =>
 ifVV x31 (
 some (0, [(v29 0), (v29 1), x31], r28.2.2)) (
 (vBinV (.int .i64) .eql (v29 1) (.int .i64 6)).bind fun x33 =>
 ifVV x33 (
 some (0, [(v29 0), (v29 1), x33], r28.2.2)) (
 (vBinV (.int .i64) .eql (v29 1) (.int .i64 9)).bind fun x35 =>
 ifVV x35 (
 some (0, [(v29 0), (v29 1), x35], r28.2.2)) (
 (vBinV (.int .i64) .eql (v29 1) (.int .i64 11)).bind fun x37 =>
 some (0, [(v29 0), (v29 1), x37], r28.2.2)))) : Option (Nat × List V × VH))).bind fun r39 =>
 inN r39.1 [
 gotV 3 r39.2.1 fun v40 =>
 ifVV (v40 2) (
 some ((.int .i64 30), r39.2.2)) (
 (vBinV (.int .i64) .eql (v40 1) (.int .i64 2)).bind fun x42 =>
 ifVV x42 (
 (vBinV (.int .i64) .rem (v40 0) (.int .i64 4)).bind fun x45 =>
 (vBinV (.int .i64) .eql x45 (.int .i64 0)).bind fun x46 =>
 ifGV x46 (
 (vBinV (.int .i64) .rem (strip (v40 0)) (.int .i64 100)).bind fun x49 =>
 (vBinV (.int .i64) .neq x49 (.int .i64 0)).bind fun x50 =>
 ifGV x50 (
 some ((.int .i64 29), r39.2.2)) (
 (vBinV (.int .i64) .rem (strip (strip (v40 0))) (.int .i64 400)).bind fun x56 =>
 (vBinV (.int .i64) .eql x56 (.int .i64 0)).bind fun x57 =>
 ifVV x57 (
 some ((.int .i64 29), r39.2.2)) (
 some ((.int .i64 28), r39.2.2)))) (
 (vBinV (.int .i64) .rem (strip (v40 0)) (.int .i64 400)).bind fun x64 =>
 (vBinV (.int .i64) .eql x64 (.int .i64 0)).bind fun x65 =>
 ifVV x65 (
 some ((.int .i64 29), r39.2.2)) (
 some ((.int .i64 28), r39.2.2)))) (
 some ((.int .i64 0), r39.2.2)))])]] := (callV_eq vb _ _ _ rfl).trans (by kernel_rfl)
theorem impl_between_eq (a0 a1 a2 : V) (H : VH) : cv id_impl_between [a0, a1, a2] H =
 (vBinV (.int .i64) .geq a0 a1).bind fun x3 =>
 ifGV x3 (
 (vBinV (.int .i64) .leq (strip a0) a2).bind fun x7 =>
 some (x7, H)) (
 some ((.bool false), H)) := (callV_eq vb _ _ _ rfl).trans (by kernel_rfl)
theorem impl_isZone_eq (a0 : V) (H : VH) : cv id_impl_isZone [a0] H =
 (qc id_impl_between [(frz H a0), (frz H (.int .i64 (-720))), (frz H (.int .i64 840))]).bind fun x2 =>
 some (x2, H) := (callV_eq vb _ _ _ rfl).trans (by kernel_rfl)
theorem impl_Date_seconds_eq (a0 : V) (H : VH) : cv id_impl_Date_seconds [a0] H =
 (aggNV 7 a0).bind fun c1 =>
 (qc id_impl_daysBefore [(frz H (strip (c1.getD 0 .nilp))), (frz H (strip (c1.getD 1 .nilp))), (frz H (strip (c1.getD 2 .nilp)))]).bind fun x9 =>
 (vBinV (.int .i64) .mul x9 (.int .i64 86400)).bind fun x10 =>
 (vBinV (.int .i64) .mul (strip (c1.getD 3 .nilp)) (.int .i64 3600)).bind fun x13 =>
 (vBinV (.int .i64) .add x10 x13).bind fun x14 =>
 (vBinV (.int .i64) .mul (strip (c1.getD 4 .nilp)) (.int .i64 60)).bind fun x17 =>
 (vBinV (.int .i64) .add x14 x17).bind fun x18 =>
 (vBinV (.int .i64) .add x18 (strip (c1.getD 5 .nilp))).bind fun x21 =>
 (vBinV (.int .i64) .mul (strip (c1.getD 6 .nilp)) (.int .i64 60)).bind fun x24 =>
 (vBinV (.int .i64) .sub x21 x24).bind fun x25 =>
 some (x25, H) := (callV_eq vb _ _ _ rfl).trans (by kernel_rfl)
noncomputable def impl_daysBefore_l6 : List V -> VH -> Option (Option Nat × List V × VH) := roundV (vb.ctx cv lpW') (vb.b.ann 95) (vb.takes 95) ⟨⟨[0, 1, 7, 8, 9], [], []⟩, [(.exit 2, ⟨[0, 1, 7, 8], [], []⟩)]⟩ (loopIn Tryz.f95 6)
noncomputable def impl_daysBefore_l3 : List V -> VH -> Option (Option Nat × List V × VH) := roundV (vb.ctx cv lpW') (vb.b.ann 95) (vb.takes 95) ⟨⟨[0, 1, 7, 8], [], []⟩, [(.exit 0, ⟨[7], [], []⟩)]⟩ (loopIn Tryz.f95 3)
theorem impl_daysBefore_l6_eq (v0 v1 v2 v3 v4 : V) (H : VH) : impl_daysBefore_l6 [v0, v1, v2, v3, v4] H =
 (id (
 (vBinV (.int .i64) .leq v4 (.int .i64 12)).bind fun x10 =>
 ifGV x10 (
 (vBinV (.int .i64) .lss v3 v0).bind fun x14 =>
 ifGV x14 (
 some (0, [(strip v0), v1, v2, (strip v3), (strip v4)], H)) (
 (vBinV (.int .i64) .lss (strip v4) v1).bind fun x20 =>
 ifVV x20 (
 some (0, [(strip v0), (strip v1), v2, (strip v3), (strip (strip v4))], H)) (
 some (1, [(strip v0), (strip v1), v2, (strip v3)], H)))) (
 some (1, [v0, v1, v2, v3], H)) : Option (Nat × List V × VH))).bind fun r24 =>
 inN r24.1 [
 gotV 5 r24.2.1 fun v25 =>
 (qc id_impl_DaysOf [(frz r24.2.2 (v25 3)), (frz r24.2.2 (v25 4))]).bind fun x29 =>
 (vBinV (.int .i64) .add (v25 2) x29).bind fun x30 =>
 (vBinV (.int .i64) .add (strip (v25 4)) (.int .i64 1)).bind fun x33 =>
 some (none, [(v25 0), (v25 1), x30, (strip (v25 3)), x33], r24.2.2),
 gotV 4 r24.2.1 fun v35 =>
 some (some 0, [(v35 0), (v35 1), (v35 2), (v35 3)], r24.2.2)] := by kernel_rfl
theorem impl_daysBefore_l3_eq (v0 v1 v2 v3 : V) (H : VH) : impl_daysBefore_l3 [v0, v1, v2, v3] H =
 (vBinV (.int .i64) .leq v3 v0).bind fun x7 =>
 ifVV x7 (
 (lpW' impl_daysBefore_l6 [(strip v0), v1, v2, (strip v3), (.int .i64 1)] H).bind fun r36 =>
 inN r36.1 [
 gotV 4 r36.2.1 fun v37 =>
 (vBinV (.int .i64) .add (v37 3) (.int .i64 1)).bind fun x39 =>
 some (none, [(v37 0), (v37 1), (v37 2), x39], r36.2.2)]) (
 some (some 0, [v2], H)) := by kernel_rfl
theorem impl_daysBefore_eq (a0 a1 a2 : V) (H : VH) : cv id_impl_daysBefore [a0, a1, a2] H =
 (vBinV (.int .i64) .sub a2 (.int .i64 1)).bind fun x2 =>
 (lpW' impl_daysBefore_l3 [a0, a1, x2, (.int .i64 1970)] H).bind fun r41 =>
 inN r41.1 [
 gotV 1 r41.2.1 fun v42 =>
 some ((v42 0), r41.2.2)] := (callV_eq vb _ _ _ rfl).trans (by kernel_rfl)
theorem impl_WeekdayOf_eq (a0 : V) (H : VH) : cv id_impl_WeekdayOf [a0] H =
 (aggNV 7 a0).bind fun c1 =>
 (qc id_impl_DateValid [(frz H (.agg [(strip (c1.getD 0 .nilp)), (strip (c1.getD 1 .nilp)), (strip (c1.getD 2 .nilp)), (strip (c1.getD 3 .nilp)), (strip (c1.getD 4 .nilp)), (strip (c1.getD 5 .nilp)), (strip (c1.getD 6 .nilp))]))]).bind fun x4 =>
 (vUnV .not x4).bind fun x5 =>
 ifVV x5 (
 some ((.str []), H)) (
 (qc id_impl_daysBefore [(frz H (strip (c1.getD 0 .nilp))), (frz H (strip (c1.getD 1 .nilp))), (frz H (strip (c1.getD 2 .nilp)))]).bind fun x14 =>
 (vBinV (.int .i64) .rem x14 (.int .i64 7)).bind fun x15 =>
 (vIndexRV 7 1 (.agg [(.str [84, 104, 117]), (.str [70, 114, 105]), (.str [83, 97, 116]), (.str [83, 117, 110]), (.str [77, 111, 110]), (.str [84, 117, 101]), (.str [87, 101, 100])]) x15).bind fun x16 =>
 some (x16, H)) := (callV_eq vb _ _ _ rfl).trans (by kernel_rfl)
noncomputable def impl_decimal_l2 : List V -> VH -> Option (Option Nat × List V × VH) := roundV (vb.ctx cv lpW') (vb.b.ann 42) (vb.takes 42) ⟨⟨[0, 1, 5], [], []⟩, [(.exit 0, ⟨[5], [], []⟩)]⟩ (loopIn Tryz.f42 2)
theorem impl_decimal_l2_eq (v0 v1 v2 : V) (H : VH) : impl_decimal_l2 [v0, v1, v2] H =
 (id (
 (vBinV (.int .i64) .gtr v0 (.int .i64 0)).bind fun x3 =>
 ifGV x3 (
 some (0, [(strip v0), v1, v2], H)) (
 (vBinV (.int .i64) .gtr v1 (.int .i64 0)).bind fun x7 =>
 ifVV x7 (
 some (0, [(strip v0), (strip v1), v2], H)) (
 some (1, [v2], H))) : Option (Nat × List V × VH))).bind fun r9 =>
 inN r9.1 [
 gotV 3 r9.2.1 fun v10 =>
 (vBinV (.int .i64) .rem (v10 0) (.int .i64 10)).bind fun x12 =>
 (vBinV (.int .i64) .rem (strip (v10 0)) (.int .i64 10)).bind fun x14 =>
 (vBinV (.int .i64) .add x14 (.int .i64 1)).bind fun x15 =>
 (vSliceSV (.str [48, 49, 50, 51, 52, 53, 54, 55, 56, 57]) (some x12) (some x15)).bind fun x16 =>
 (vBinV .str .add x16 (v10 2)).bind fun x18 =>
 (vBinV (.int .i64) .quo (strip (strip (v10 0))) (.int .i64 10)).bind fun x21 =>
 (vBinV (.int .i64) .sub (v10 1) (.int .i64 1)).bind fun x24 =>
 some (none, [x21, x24, x18], r9.2.2),
 gotV 1 r9.2.1 fun v26 =>
 some (some 0, [(v26 0)], r9.2.2)] := by kernel_rfl
theorem impl_decimal_eq (a0 a1 : V) (H : VH) : cv id_impl_decimal [a0, a1] H =
 (lpW' impl_decimal_l2 [a0, a1, (.str [])] H).bind fun r27 =>
 inN r27.1 [
 gotV 1 r27.2.1 fun v28 =>
 some ((v28 0), r27.2.2)] := (callV_eq vb _ _ _ rfl).trans (by kernel_rfl)
theorem spec_FormatDate_eq (a0 : V) (H : VH) : cv id_spec_FormatDate [a0] H =
 (aggNV 7 a0).bind fun c1 =>
 (qc id_spec_DateValid [(frz H (.agg [(strip (c1.getD 0 .nilp)), (strip (c1.getD 1 .nilp)), (strip (c1.getD 2 .nilp)), (strip (c1.getD 3 .nilp)), (strip (c1.getD 4 .nilp)), (strip (c1.getD 5 .nilp)), (strip (c1.getD 6 .nilp))]))]).bind fun x4 =>
 (vUnV .not x4).bind fun x5 =>
 ifVV x5 (
 some ((.str []), H)) (
 (id (
 (vBinV (.int .i64) .lss (strip (c1.getD 6 .nilp)) (.int .i64 0)).bind fun x12 =>
 ifVV x12 (
 (vUnV .neg (strip (strip (c1.getD 6 .nilp)))).bind fun x15 =>
 some (0, [(.str [45]), x15, (c1.getD 0 .nilp), (c1.getD 1 .nilp), (c1.getD 2 .nilp), (c1.getD 3 .nilp), (c1.getD 4 .nilp), (c1.getD 5 .nilp), (c1.getD 6 .nilp)], H)) (
 some (0, [(.str [43]), (strip (strip (c1.getD 6 .nilp))), (c1.getD 0 .nilp), (c1.getD 1 .nilp), (c1.getD 2 .nilp), (c1.getD 3 .nilp), (c1.getD 4 .nilp), (c1.getD 5 .nilp), (c1.getD 6 .nilp)], H)) : Option (Nat × List V × VH))).bind fun r17 =>
 inN r17.1 [
 gotV 9 r17.2.1 fun v18 =>
 (qc id_spec_WeekdayOf [(frz r17.2.2 (.agg [(strip (v18 2)), (strip (v18 3)), (strip (v18 4)), (strip (v18 5)), (strip (v18 6)), (strip (v18 7)), (strip (v18 8))]))]).bind fun x20 =>
 (vBinV .str .add x20 (.str [44, 32])).bind fun x21 =>
 (qc id_spec_l13Dec [(frz r17.2.2 (strip (v18 4)))]).bind fun x24 =>
 (vBinV .str .add x21 x24).bind fun x25 =>
 (vBinV .str .add x25 (.str [32])).bind fun x26 =>
 (pc id_spec_l4Months []).bind fun x27 =>
 (vBinV (.int .i64) .sub (strip (v18 3)) (.int .i64 1)).bind fun x30 =>
 (vIdxV 1 x27 x30).bind fun x31 =>
 (ldO globB false false 1 x31 r17.2.2).bind fun r33 =>
 (vBinV .str .add x26 r33.1).bind fun x34 =>
 (vBinV .str .add x34 (.str [32])).bind fun x35 =>
 (qc id_spec_l13Dec [(frz r33.2 (strip (v18 2)))]).bind fun x38 =>
 (vBinV .str .add x35 x38).bind fun x39 =>
 (vBinV .str .add x39 (.str [32])).bind fun x40 =>
 (qc id_spec_l4Two [(frz r33.2 (strip (v18 5)))]).bind fun x43 =>
 (vBinV .str .add x40 x43).bind fun x44 =>
 (vBinV .str .add x44 (.str [58])).bind fun x45 =>
 (qc id_spec_l4Two [(frz r33.2 (strip (v18 6)))]).bind fun x48 =>
 (vBinV .str .add x45 x48).bind fun x49 =>
 (vBinV .str .add x49 (.str [58])).bind fun x50 =>
 (qc id_spec_l4Two [(frz r33.2 (strip (v18 7)))]).bind fun x53 =>
 (vBinV .str .add x50 x53).bind fun x54 =>
 (vBinV .str .add x54 (.str [32])).bind fun x55 =>
 (vBinV .str .add x55 (v18 0)).bind fun x57 =>
 (vBinV (.int .i64) .quo (v18 1) (.int .i64 60)).bind fun x59 =>
 (qc id_spec_l4Two [(frz r33.2 x59)]).bind fun x60 =>
 (vBinV .str .add x57 x60).bind fun x61 =>
 (vBinV (.int .i64) .rem (strip (v18 1)) (.int .i64 60)).bind fun x63 =>
 (qc id_spec_l4Two [(frz r33.2 x63)]).bind fun x64 =>
 (vBinV .str .add x61 x64).bind fun x65 =>
 some (x65, r33.2)]) := (callV_eq vb _ _ _ rfl).trans (by kernel_rfl)
theorem spec_DateValid_eq (a0 : V) (H : VH) : cv id_spec_DateValid [a0] H =
 (aggNV 7 a0).bind fun c1 =>
 (qc id_spec_l4Fields [(frz H (.agg [(strip (c1.getD 0 .nilp)), (strip (c1.getD 1 .nilp)), (strip (c1.getD 2 .nilp)), (strip (c1.getD 3 .nilp)), (strip (c1.getD 4 .nilp)), (strip (c1.getD 5 .nilp)), (strip (c1.getD 6 .nilp))]))]).bind fun x4 =>
 (vUnV .not x4).bind fun x5 =>
 ifVV x5 (
 some ((.bool false), H)) (
 (qc id_spec_l4Seconds [(frz H (.agg [(strip (c1.getD 0 .nilp)), (strip (c1.getD 1 .nilp)), (strip (c1.getD 2 .nilp)), (strip (c1.getD 3 .nilp)), (strip (c1.getD 4 .nilp)), (strip (c1.getD 5 .nilp)), (strip (c1.getD 6 .nilp))]))]).bind fun x8 =>
 (vBinV (.int .i64) .geq x8 (.int .i64 0)).bind fun x11 =>
 ifGV x11 (
 (vBinV (.int .i64) .lss (strip x8) (.int .i64 4102444800)).bind fun x14 =>
 some (x14, H)) (
 some ((.bool false), H))) := (callV_eq vb _ _ _ rfl).trans (by kernel_rfl)
theorem spec_l4Fields_eq (a0 : V) (H : VH) : cv id_spec_l4Fields [a0] H =
 (aggNV 7 a0).bind fun c1 =>
 (vBinV (.int .i64) .geq (strip (c1.getD 2 .nilp)) (.int .i64 1)).bind fun x5 =>
 ifGV x5 (
 (qc id_spec_DaysOf [(frz H (strip (c1.getD 0 .nilp))), (frz H (strip (c1.getD 1 .nilp)))]).bind fun x13 =>
 (vBinV (.int .i64) .leq (strip (c1.getD 2 .nilp)) x13).bind fun x14 =>
 ifGV x14 (
 (vBinV (.int .i64) .geq (strip (c1.getD 3 .nilp)) (.int .i64 0)).bind fun x19 =>
 ifGV x19 (
 (vBinV (.int .i64) .leq (strip (c1.getD 3 .nilp)) (.int .i64 23)).bind fun x24 =>
 ifGV x24 (
 (vBinV (.int .i64) .geq (strip (c1.getD 4 .nilp)) (.int .i64 0)).bind fun x29 =>
 ifGV x29 (
 (vBinV (.int .i64) .leq (strip (c1.getD 4 .nilp)) (.int .i64 59)).bind fun x34 =>
 ifGV x34 (
 (vBinV (.int .i64) .geq (strip (c1.getD 5 .nilp)) (.int .i64 0)).bind fun x39 =>
 ifGV x39 (
 (vBinV (.int .i64) .leq (strip (c1.getD 5 .nilp)) (.int .i64 59)).bind fun x44 =>
 ifGV x44 (
 (qc id_spec_l4Zone [(frz H (strip (c1.getD 6 .nilp)))]).bind fun x49 =>
 some (x49, H)) (
 some ((.bool false), H))) (
 some ((.bool false), H))) (
 some ((.bool false), H))) (
 some ((.bool false), H))) (
 some ((.bool false), H))) (
 some ((.bool false), H))) (
 some ((.bool false), H))) (
 some ((.bool false), H)) := (callV_eq vb _ _ _ rfl).trans (by kernel_rfl)
noncomputable def spec_l4Seconds_l3 : List V -> VH -> Option (Option Nat × List V × VH) := roundV (vb.ctx cv lpW') (vb.b.ann 97) (vb.takes 97) ⟨⟨[3, 4], [(1, (1, 0))], [(1, 7)]⟩, [(.exit 0, ⟨[3], [(1, (1, 0))], [(1, 7)]⟩)]⟩ (loopIn Tryz.f97 3)
noncomputable def spec_l4Seconds_l9 : List V -> VH -> Option (Option Nat × List V × VH) := roundV (vb.ctx cv lpW') (vb.b.ann 97) (vb.takes 97) ⟨⟨[3, 5], [(1, (1, 0))], [(1, 7)]⟩, [(.exit 2, ⟨[3], [(1, (1, 0))], [(1, 7)]⟩)]⟩ (loopIn Tryz.f97 9)
theorem spec_l4Seconds_l3_eq (v0 v1 v2 v3 v4 v5 v6 v7 v8 : V) (H : VH) : spec_l4Seconds_l3 [v0, v1, v2, v3, v4, v5, v6, v7, v8] H =
 (vBinV (.int .i64) .lss v1 (strip v2)).bind fun x11 =>
 ifVV x11 (
 (id (
 (vBinV (.int .i64) .add v0 (.int .i64 365)).bind fun x13 =>
 (qc id_spec_l4Leap [(frz H (strip v1))]).bind fun x16 =>
 ifVV x16 (
 (vBinV (.int .i64) .add x13 (.int .i64 1)).bind fun x18 =>
 some (0, [x18, (strip (strip v1)), v2, v3, v4, v5, v6, v7, v8], H)) (
 some (0, [x13, (strip (strip v1)), v2, v3, v4, v5, v6, v7, v8], H)) : Option (Nat × List V × VH))).bind fun r20 =>
 inN r20.1 [
 gotV 9 r20.2.1 fun v21 =>
 (vBinV (.int .i64) .add (v21 1) (.int .i64 1)).bind fun x23 =>
 some (none, [(v21 0), x23, (v21 2), (v21 3), (v21 4), (v21 5), (v21 6), (v21 7), (v21 8)], r20.2.2)]) (
 some (some 0, [v0, v2, v3, v4, v5, v6, v7, v8], H)) := by kernel_rfl
theorem spec_l4Seconds_l9_eq (v0 v1 v2 v3 v4 v5 v6 v7 v8 : V) (H : VH) : spec_l4Seconds_l9 [v0, v1, v2, v3, v4, v5, v6, v7, v8] H =
 (vBinV (.int .i64) .lss v1 (strip v3)).bind fun x31 =>
 ifVV x31 (
 (qc id_spec_DaysOf [(frz H (strip v2)), (frz H (strip v1))]).bind fun x36 =>
 (vBinV (.int .i64) .add v0 x36).bind fun x37 =>
 (vBinV (.int .i64) .add (strip (strip v1)) (.int .i64 1)).bind fun x40 =>
 some (none, [x37, x40, v2, v3, v4, v5, v6, v7, v8], H)) (
 some (some 0, [v0, v2, v3, v4, v5, v6, v7, v8], H)) := by kernel_rfl
theorem spec_l4Seconds_eq (a0 : V) (H : VH) : cv id_spec_l4Seconds [a0] H =
 (aggNV 7 a0).bind fun c1 =>
 (vBinV (.int .i64) .sub (strip (c1.getD 2 .nilp)) (.int .i64 1)).bind fun x5 =>
 (lpW' spec_l4Seconds_l3 [x5, (.int .i64 1970), (c1.getD 0 .nilp), (c1.getD 1 .nilp), (c1.getD 2 .nilp), (c1.getD 3 .nilp), (c1.getD 4 .nilp), (c1.getD 5 .nilp), (c1.getD 6 .nilp)] H).bind fun r25 =>
 inN r25.1 [
 gotV 8 r25.2.1 fun v26 =>
 (lpW' spec_l4Seconds_l9 [(v26 0), (.int .i64 1), (v26 1), (v26 2), (v26 3), (v26 4), (v26 5), (v26 6), (v26 7)] r25.2.2).bind fun r42 =>
 inN r42.1 [
 gotV 8 r42.2.1 fun v43 =>
 (vBinV (.int .i64) .mul (v43 0) (.int .i64 86400)).bind fun x45 =>
 (vBinV (.int .i64) .mul (strip (v43 4)) (.int .i64 3600)).bind fun x48 =>
 (vBinV (.int .i64) .add x45 x48).bind fun x49 =>
 (vBinV (.int .i64) .mul (strip (v43 5)) (.int .i64 60)).bind fun x52 =>
 (vBinV (.int .i64) .add x49 x52).bind fun x53 =>
 (vBinV (.int .i64) .add x53 (strip (v43 6))).bind fun x56 =>
 (vBinV (.int .i64) .mul (strip (v43 7)) (.int .i64 60)).bind fun x59 =>
 (vBinV (.int .i64) .sub x56 x59).bind fun x60 =>
 some (x60, r42.2.2)]] := (callV_eq vb _ _ _ rfl).trans (by kernel_rfl)
theorem spec_WeekdayOf_eq (a0 : V) (H : VH) : cv id_spec_WeekdayOf [a0] H =
 (aggNV 7 a0).bind fun c1 =>
 (qc id_spec_DateValid [(frz H (.agg [(strip (c1.getD 0 .nilp)), (strip (c1.getD 1 .nilp)), (strip (c1.getD 2 .nilp)), (strip (c1.getD 3 .nilp)), (strip (c1.getD 4 .nilp)), (strip (c1.getD 5 .nilp)), (strip (c1.getD 6 .nilp))]))]).bind fun x4 =>
 (vUnV .not x4).bind fun x5 =>
 ifVV x5 (
 some ((.str []), H)) (
 (qc id_spec_l4Seconds [(frz H (.agg [(strip (c1.getD 0 .nilp)), (strip (c1.getD 1 .nilp)), (strip (c1.getD 2 .nilp)), (strip (c1.getD 3 .nilp)), (strip (c1.getD 4 .nilp)), (strip (c1.getD 5 .nilp)), (strip (c1.getD 6 .nilp))]))]).bind fun x11 =>
 (vBinV (.int .i64) .mul (strip (c1.getD 6 .nilp)) (.int .i64 60)).bind fun x14 =>
 (vBinV (.int .i64) .add x11 x14).bind fun x15 =>
 (vBinV (.int .i64) .quo x15 (.int .i64 86400)).bind fun x16 =>
 (vBinV (.int .i64) .rem x16 (.int .i64 7)).bind fun x17 =>
 (vIdxV 1 (strip (.sl false (stripLL [[(.str [84, 104, 117])], [(.str [70, 114, 105])], [(.str [83, 97, 116])], [(.str [83, 117, 110])], [(.str [77, 111, 110])], [(.str [84, 117, 101])], [(.str [87, 101, 100])]]))) x17).bind fun x18 =>
 (ldO globB false false 1 x18 H).bind fun r20 =>
 some (r20.1, r20.2)) := (callV_eq vb _ _ _ rfl).trans (by kernel_rfl)
noncomputable def spec_l13Dec_l6 : List V -> VH -> Option (Option Nat × List V × VH) := roundV (vb.ctx cv lpW') (vb.b.ann 45) (vb.takes 45) ⟨⟨[0, 3], [], []⟩, [(.exit 0, ⟨[0, 3], [], []⟩)]⟩ (loopIn Tryz.f45 6)
theorem spec_l13Dec_l6_eq (v0 v1 : V) (H : VH) : spec_l13Dec_l6 [v0, v1] H =
 (vBinV (.int .i64) .gtr v0 (.int .i64 9)).bind fun x13 =>
 ifVV x13 (
 (vBinV (.int .i64) .rem (strip v0) (.int .i64 10)).bind fun x15 =>
 (vBinV (.int .i64) .add (.int .i64 48) x15).bind fun x16 =>
 (vConvV .u8 x16).bind fun x17 =>
 (vOneV x17).bind fun y19 =>
 (b2sV (.sl true [[y19]]) H).bind fun x20 =>
 (vBinV .str .add x20 v1).bind fun x22 =>
 (vBinV (.int .i64) .quo (strip (strip v0)) (.int .i64 10)).bind fun x25 =>
 some (none, [x25, x22], H)) (
 some (some 0, [(strip v0), v1], H)) := by kernel_rfl
theorem spec_l13Dec_eq (a0 : V) (H : VH) : cv id_spec_l13Dec [a0] H =
 (vBinV (.int .i64) .lss a0 (.int .i64 (-9223372036854775807))).bind fun x2 =>
 ifVV x2 (
 some ((.str [45, 57, 50, 50, 51, 51, 55, 50, 48, 51, 54, 56, 53, 52, 55, 55, 53, 56, 48, 56]), H)) (
 (vBinV (.int .i64) .lss (strip a0) (.int .i64 0)).bind fun x5 =>
 ifVV x5 (
 (vUnV .neg (strip (strip a0))).bind fun x7 =>
 (qc id_spec_l13Dec [(frz H x7)]).bind fun x8 =>
 (vBinV .str .add (.str [45]) x8).bind fun x9 =>
 some (x9, H)) (
 (lpW' spec_l13Dec_l6 [(strip (strip a0)), (.str [])] H).bind fun r27 =>
 inN r27.1 [
 gotV 2 r27.2.1 fun v28 =>
 (vBinV (.int .i64) .add (.int .i64 48) (v28 0)).bind fun x30 =>
 (vConvV .u8 x30).bind fun x31 =>
 (vOneV x31).bind fun y33 =>
 (b2sV (.sl true [[y33]]) r27.2.2).bind fun x34 =>
 (vBinV .str .add x34 (v28 1)).bind fun x36 =>
 some (x36, r27.2.2)])) := (callV_eq vb _ _ _ rfl).trans (by kernel_rfl)
theorem spec_l4Months_eq (H : VH) : cv id_spec_l4Months [] H =
 some ((.sl true [[(.str [74, 97, 110])], [(.str [70, 101, 98])], [(.str [77, 97, 114])], [(.str [65, 112, 114])], [(.str [77, 97, 121])], [(.str [74, 117, 110])], [(.str [74, 117, 108])], [(.str [65, 117, 103])], [(.str [83, 101, 112])], [(.str [79, 99, 116])], [(.str [78, 111, 118])], [(.str [68, 101, 99])]]), H) := (callV_eq vb _ _ _ rfl).trans (by kernel_rfl)
theorem spec_l4Two_eq (a0 : V) (H : VH) : cv id_spec_l4Two [a0] H =
 (vBinV (.int .i64) .quo a0 (.int .i64 10)).bind fun x2 =>
 (qc id_spec_l13Dec [(frz H x2)]).bind fun x3 =>
 (vBinV (.int .i64) .rem (strip a0) (.int .i64 10)).bind fun x5 =>
 (qc id_spec_l13Dec [(frz H x5)]).bind fun x6 =>
 (vBinV .str .add x3 x6).bind fun x7 =>
 some (x7, H) := (callV_eq vb _ _ _ rfl).trans (by kernel_rfl)
noncomputable def impl_RunScript_l5 : List V -> VH -> Option (Option Nat × List V × VH) := roundV (vb.ctx cv lpW') (vb.b.ann 14) (vb.takes 14) ⟨⟨[3, 4, 12, 13, 14], [], []⟩, [(.exit 0, ⟨[4], [], []⟩), (.ret, ⟨[2], [], []⟩)]⟩ (loopIn Tryz.f14 5)
theorem impl_RunScript_l5_eq (v0 v1 v2 v3 v4 : V) (H : VH) : impl_RunScript_l5 [v0, v1, v2, v3, v4] H =
 (vBinV (.int .i64) .lss v4 v3).bind fun x15 =>
 ifVV x15 (
 (vIdxV 1 v2 (strip v4)).bind fun x17 =>
 (ldO globB false false 1 x17 H).bind fun r19 =>
 (vBinV .str .eql r19.1 (.str [])).bind fun x23 =>
 ifVV x23 (
 (vBinV (.int .i64) .add (strip v4) (.int .i64 1)).bind fun x24 =>
 some (none, [v0, v1, v2, v3, x24], r19.2)) (
 (id (
 (vBinV (.int .i64) .geq v4 (.int .i64 200)).bind fun x27 =>
 ifGV x27 (
 (vBinV .str .add v1 (.str [102, 117, 108, 108, 10])).bind fun x31 =>
 some (0, [x31], r19.2)) (
 (vLenSV v1).bind fun x34 =>
 (vBinV (.int .i64) .gtr x34 (.int .i64 40000)).bind fun x35 =>
 ifVV x35 (
 (vBinV .str .add (strip v1) (.str [102, 117, 108, 108, 10])).bind fun x38 =>
 some (0, [x38], r19.2)) (
 some (1, [v0, (strip v1), (strip r19.1), v2, v3, (strip v4)], r19.2))) : Option (Nat × List V × VH))).bind fun r40 =>
 inN r40.1 [
 gotV 1 r40.2.1 fun v41 =>
 some (some 1, [(v41 0)], r40.2.2),
 gotV 6 r40.2.1 fun v42 =>
 (cv id_impl_gate_line [(strip (v42 0)), (strip (v42 2))] r40.2.2).bind fun r46 =>
 (vBinV .str .add (v42 1) r46.1).bind fun x47 =>
 (vBinV (.int .i64) .add (v42 5) (.int .i64 1)).bind fun x49 =>
 some (none, [(v42 0), x47, (v42 3), (v42 4), x49], r46.2)])) (
 some (some 0, [v1], H)) := by kernel_rfl
theorem impl_RunScript_eq (a0 : V) (H : VH) : cv id_impl_RunScript [a0] H =
 (vLenSV a0).bind fun x2 =>
 (vBinV (.int .i64) .gtr x2 (.int .i64 20000)).bind fun x3 =>
 ifVV x3 (
 some ((.str [108, 111, 110, 103, 10]), H)) (
 (pc id_impl_newGate []).bind fun x5 =>
 (aggNV 14 x5).bind fun c8 =>
 (stO (.ptr H.length 0) [(c8.getD 0 .nilp), (c8.getD 1 .nilp), (c8.getD 2 .nilp), (c8.getD 3 .nilp), (c8.getD 4 .nilp), (c8.getD 5 .nilp), (c8.getD 6 .nilp), (c8.getD 7 .nilp), (c8.getD 8 .nilp), (c8.getD 9 .nilp), (c8.getD 10 .nilp), (c8.getD 11 .nilp), (c8.getD 12 .nilp), (c8.getD 13 .nilp)] (H ++ [[(.sl true []), (.int .i64 0), (.str []), (.str []), (.sl true []), (.sl true []), (.sl true []), (.int .i64 0), (.int .i64 0), (.int .i64 0), (.int .i64 0), (.int .i64 0), (.int .i64 0), (.int .i64 0)]])).bind fun H9 =>
 (pc id_strings_Split [(frz H9 (strip a0)), (frz H9 (.str [10]))]).bind fun x12 =>
 (vLenVV x12).bind fun x13 =>
 (lpW' impl_RunScript_l5 [(.ptr H.length 0), (.str []), x12, x13, (.int .i64 0)] H9).bind fun r51 =>
 inN r51.1 [
 gotV 1 r51.2.1 fun v52 =>
 some ((v52 0), r51.2.2),
 gotV 1 r51.2.1 fun v55 =>
 some ((v55 0), r51.2.2)]) := (callV_eq vb _ _ _ rfl).trans (by kernel_rfl)
theorem impl_newGate_eq (H : VH) : cv id_impl_newGate [] H =
 (pc id_impl_DateOf [(frz H (.int .i64 1767593289)), (frz H (.int .i64 60))]).bind fun x1 =>
 (vExtV x1 0).bind fun x3 =>
 (vExtV x1 1).bind fun x4 =>
 (aggNV 7 (strip x3)).bind fun c7 =>
 some ((.agg [(.sl true []), (.int .i64 0), (.str []), (.str []), (.sl true []), (.sl true []), (.sl true []), (strip (c7.getD 0 .nilp)), (strip (c7.getD 1 .nilp)), (strip (c7.getD 2 .nilp)), (strip (c7.getD 3 .nilp)), (strip (c7.getD 4 .nilp)), (strip (c7.getD 5 .nilp)), (strip (c7.getD 6 .nilp))]), H) := (callV_eq vb _ _ _ rfl).trans (by kernel_rfl)
noncomputable def impl_DateOf_l8 : List V -> VH -> Option (Option Nat × List V × VH) := roundV (vb.ctx cv lpW') (vb.b.ann 80) (vb.takes 80) ⟨⟨[7], [(4, (4, 0)), (9, (9, 0))], [(4, 7), (9, 7)]⟩, [(.exit 0, ⟨[7], [(4, (4, 0)), (9, (9, 0))], [(4, 7), (9, 7)]⟩)]⟩ (loopIn Tryz.f80 8)
theorem impl_DateOf_l8_eq (v0 v1 v2 v3 v4 v5 v6 v7 v8 v9 v10 v11 v12 v13 v14 : V) (H : VH) : impl_DateOf_l8 [v0, v1, v2, v3, v4, v5, v6, v7, v8, v9, v10, v11, v12, v13, v14] H =
 (id (
 (vBinV (.int .i64) .leq (strip v8) (.int .i64 2099)).bind fun x53 =>
 ifGV x53 (
 (qc id_impl_DaysOf [(frz H (strip v8)), (frz H (strip v9))]).bind fun x60 =>
 (vBinV (.int .i64) .geq v0 x60).bind fun x61 =>
 ifVV x61 (
 some (0, [(strip v0), v1, v2, v3, v4, v5, v6, v7, v8, v9, v10, v11, v12, v13, v14], H)) (
 some (1, [(strip v0), v1, v2, v3, v4, v5, v6, v7, v8, v9, v10, v11, v12, v13, v14], H))) (
 some (1, [v0, v1, v2, v3, v4, v5, v6, v7, v8, v9, v10, v11, v12, v13, v14], H)) : Option (Nat × List V × VH))).bind fun r64 =>
 inN r64.1 [
 gotV 15 r64.2.1 fun v65 =>
 (qc id_impl_DaysOf [(frz r64.2.2 (strip (v65 8))), (frz r64.2.2 (strip (v65 9)))]).bind fun x71 =>
 (vBinV (.int .i64) .sub (v65 0) x71).bind fun x72 =>
 (vBinV (.int .i64) .add (strip (v65 9)) (.int .i64 1)).bind fun x76 =>
 (vOneV x76).bind fun y79 =>
 (vBinV (.int .i64) .gtr (strip y79) (.int .i64 12)).bind fun x82 =>
 ifVV x82 (
 (vBinV (.int .i64) .add (strip (v65 8)) (.int .i64 1)).bind fun x85 =>
 (vOneV x85).bind fun y88 =>
 some (none, [x72, (v65 1), (v65 2), (v65 3), (v65 4), (v65 5), (v65 6), (v65 7), y88, (.int .i64 1), (v65 10), (v65 11), (v65 12), (v65 13), (v65 14)], r64.2.2)) (
 some (none, [x72, (v65 1), (v65 2), (v65 3), (v65 4), (v65 5), (v65 6), (v65 7), (v65 8), y79, (v65 10), (v65 11), (v65 12), (v65 13), (v65 14)], r64.2.2)),
 gotV 15 r64.2.1 fun v91 =>
 some (some 0, [(v91 0), (v91 1), (v91 2), (v91 3), (v91 4), (v91 5), (v91 6), (v91 7), (v91 8), (v91 9), (v91 10), (v91 11), (v91 12), (v91 13), (v91 14)], r64.2.2)] := by kernel_rfl
theorem impl_DateOf_eq (a0 a1 : V) (H : VH) : cv id_impl_DateOf [a0, a1] H =
 (id (
 (qc id_impl_between [(frz H a0), (frz H (.int .i64 0)), (frz H (.int .i64 4102444799))]).bind fun x3 =>
 (vUnV .not x3).bind fun x4 =>
 ifGV x4 (
 some (0, [(.bool false), (.int .i64 0), (.int .i64 0), (.int .i64 0), (.int .i64 0), (.int .i64 0), (.int .i64 0), (.int .i64 0)], H)) (
 (qc id_impl_isZone [(frz H a1)]).bind fun x11 =>
 (vUnV .not x11).bind fun x12 =>
 ifVV x12 (
 some (0, [(.bool false), (.int .i64 0), (.int .i64 0), (.int .i64 0), (.int .i64 0), (.int .i64 0), (.int .i64 0), (.int .i64 0)], H)) (
 some (1, [(strip a0), (strip a1), (.int .i64 0), (.int .i64 0), (.int .i64 0), (.int .i64 0), (.int .i64 0), (.int .i64 0), (.int .i64 0)], H))) : Option (Nat × List V × VH))).bind fun r17 =>
 inN r17.1 [
 gotV 8 r17.2.1 fun v18 =>
 some ((.tup [(.agg [(v18 1), (v18 2), (v18 3), (v18 4), (v18 5), (v18 6), (v18 7)]), (v18 0)]), r17.2.2),
 gotV 9 r17.2.1 fun v19 =>
 (vBinV (.int .i64) .mul (v19 1) (.int .i64 60)).bind fun x22 =>
 (vBinV (.int .i64) .add (v19 0) x22).bind fun x23 =>
 (vBinV (.int .i64) .lss x23 (.int .i64 0)).bind fun x26 =>
 ifVV x26 (
 some ((.tup [(.agg [(.int .i64 0), (.int .i64 0), (.int .i64 0), (.int .i64 0), (.int .i64 0), (.int .i64 0), (.int .i64 0)]), (.bool false)]), r17.2.2)) (
 (vBinV (.int .i64) .quo (strip x23) (.int .i64 86400)).bind fun x31 =>
 (vBinV (.int .i64) .rem (strip (strip x23)) (.int .i64 86400)).bind fun x33 =>
 (vBinV (.int .i64) .quo x33 (.int .i64 3600)).bind fun x37 =>
 (vBinV (.int .i64) .quo (strip x33) (.int .i64 60)).bind fun x39 =>
 (vBinV (.int .i64) .rem x39 (.int .i64 60)).bind fun x40 =>
 (vBinV (.int .i64) .rem (strip (strip x33)) (.int .i64 60)).bind fun x42 =>
 (vOneV x37).bind fun y45 =>
 (vOneV x40).bind fun y46 =>
 (vOneV x42).bind fun y47 =>
 (vOneV (strip (v19 1))).bind fun y48 =>
 (lpW' impl_DateOf_l8 [x31, (v19 2), (v19 3), (v19 4), (v19 5), (v19 6), (v19 7), (v19 8), (.int .i64 1970), (.int .i64 1), (.int .i64 0), y45, y46, y47, y48] r17.2.2).bind fun r92 =>
 inN r92.1 [
 gotV 15 r92.2.1 fun v93 =>
 (vBinV (.int .i64) .add (v93 0) (.int .i64 1)).bind fun x95 =>
 (vOneV x95).bind fun y98 =>
 (qc id_impl_DateValid [(frz r92.2.2 (.agg [(strip (v93 8)), (strip (v93 9)), (strip y98), (strip (v93 11)), (strip (v93 12)), (strip (v93 13)), (strip (v93 14))]))]).bind fun x100 =>
 (vUnV .not x100).bind fun x101 =>
 ifVV x101 (
 some ((.tup [(.agg [(.int .i64 0), (.int .i64 0), (.int .i64 0), (.int .i64 0), (.int .i64 0), (.int .i64 0), (.int .i64 0)]), (.bool false)]), r92.2.2)) (
 some ((.tup [(.agg [(strip (v93 8)), (strip (v93 9)), (strip y98), (strip (v93 11)), (strip (v93 12)), (strip (v93 13)), (strip (v93 14))]), (.bool true)]), r92.2.2))])] := (callV_eq vb _ _ _ rfl).trans (by kernel_rfl)
theorem strings_Split_eq (a0 a1 : V) (H : VH) : cv id_strings_Split [a0, a1] H =
 (pcg id_strings_genSplit H [a0, a1, (.int .i64 0), (.int .i64 (-1))]).bind fun r4 =>
 some (r4.1, r4.2) := (callV_eq vb _ _ _ rfl).trans (by kernel_rfl)
noncomputable def strings_genSplit_l11 : List V -> VH -> Option (Option Nat × List V × VH) := roundV (vb.ctx cv lpW') (vb.b.ann 81) (vb.takes 81) ⟨⟨[0, 1, 2, 3, 9, 10], [], []⟩, [(.exit 0, ⟨[0, 9, 10], [], []⟩)]⟩ (loopIn Tryz.f81 11)
theorem strings_genSplit_l11_eq (v0 v1 v2 v3 v4 v5 : V) (H : VH) : strings_genSplit_l11 [v0, v1, v2, v3, v4, v5] H =
 (vBinV (.int .i64) .lss v5 v3).bind fun x34 =>
 ifVV x34 (
 (qc id_strings_Index [(frz H v0), (frz H v1)]).bind fun x37 =>
 (vBinV (.int .i64) .lss x37 (.int .i64 0)).bind fun x40 =>
 ifVV x40 (
 some (some 0, [(strip v0), v4, (strip v5)], H)) (
 (vBinV (.int .i64) .add (strip x37) v2).bind fun x46 =>
 (vSliceSV (strip v0) none (some x46)).bind fun x47 =>
 (vIdxV 1 (strip v4) (strip v5)).bind fun x48 =>
 (vOneV x47).bind fun y50 =>
 (stO x48 [y50] H).bind fun H51 =>
 (vLenSV (strip v1)).bind fun x55 =>
 (vBinV (.int .i64) .add (strip (strip x37)) x55).bind fun x56 =>
 (vSliceSV (strip (strip v0)) (some x56) none).bind fun x57 =>
 (vBinV (.int .i64) .add (strip (strip v5)) (.int .i64 1)).bind fun x60 =>
 some (none, [x57, (strip (strip v1)), (strip v2), (strip v3), v4, x60], H51))) (
 some (some 0, [v0, v4, (strip v5)], H)) := by kernel_rfl
theorem strings_genSplit_eq (a0 a1 a2 a3 : V) (H : VH) : cv id_strings_genSplit [a0, a1, a2, a3] H =
 (vBinV (.int .i64) .eql a3 (.int .i64 0)).bind fun x2 =>
 ifVV x2 (
 some ((.sl true []), H)) (
 (vBinV .str .eql a1 (.str [])).bind fun x5 =>
 ifVV x5 (
 (pc id_strings_explode [(frz H a0), (frz H (strip a3))]).bind fun x8 =>
 some (x8, H)) (
 (id (
 (vBinV (.int .i64) .lss (strip a3) (.int .i64 0)).bind fun x11 =>
 ifVV x11 (
 (qc id_strings_Count [(frz H a0), (frz H (strip a1))]).bind fun x14 =>
 (vBinV (.int .i64) .add x14 (.int .i64 1)).bind fun x15 =>
 some (0, [(strip a0), (strip (strip a1)), a2, x15], H)) (
 some (0, [a0, (strip a1), a2, (strip (strip a3))], H)) : Option (Nat × List V × VH))).bind fun r17 =>
 inN r17.1 [
 gotV 4 r17.2.1 fun v18 =>
 (vLenSV (v18 0)).bind fun x21 =>
 (vBinV (.int .i64) .add x21 (.int .i64 1)).bind fun x22 =>
 (vMinV (v18 3) x22).bind fun x23 =>
 (mkLenV 16 x23 x23).bind fun x26 =>
 (vBinV (.int .i64) .sub (strip x23) (.int .i64 1)).bind fun x29 =>
 (lpW' strings_genSplit_l11 [(strip (v18 0)), (v18 1), (v18 2), x29, (.obs r17.2.2.length 0 x26.1 1), (.int .i64 0)] (r17.2.2 ++ [repV x26.2 [(.str [])]])).bind fun r62 =>
 inN r62.1 [
 gotV 3 r62.2.1 fun v63 =>
 (vIdxV 1 (strip (v63 1)) (v63 2)).bind fun x67 =>
 (vOneV (v63 0)).bind fun y69 =>
 (stO x67 [y69] r62.2.2).bind fun H70 =>
 (vBinV (.int .i64) .add (strip (v63 2)) (.int .i64 1)).bind fun x73 =>
 (vSliceVV 1 (strip (v63 1)) none (some x73)).bind fun x74 =>
 some (x74, H70)]])) := (callV_eq vb _ _ _ rfl).trans (by kernel_rfl)
noncomputable def strings_explode_l6 : List V -> VH -> Option (Option Nat × List V × VH) := roundV (vb.ctx cv lpW') (vb.b.ann 130) (vb.takes 130) ⟨⟨[0, 1, 6, 7], [], []⟩, [(.exit 0, ⟨[0, 1, 6], [], []⟩)]⟩ (loopIn Tryz.f130 6)
noncomputable def strings_Count_l6 : List V -> VH -> Option (Option Nat × List V × VH) := roundV (vb.ctx cv lpW') (vb.b.ann 131) (vb.takes 131) ⟨⟨[0, 1, 5], [], []⟩, [(.ret, ⟨[4], [], []⟩)]⟩ (loopIn Tryz.f131 6)
theorem strings_Count_eq (a0 a1 : V) (H : VH) : cv id_strings_Count [a0, a1] H =
 (vLenSV a1).bind fun x2 =>
 (vBinV (.int .i64) .eql x2 (.int .i64 0)).bind fun x3 =>
 ifVV x3 (
 (qc id_unicode_utf8_RuneCountInString [(frz H a0)]).bind fun x5 =>
 (vBinV (.int .i64) .add x5 (.int .i64 1)).bind fun x6 =>
 some (x6, H)) (
 (vLenSV (strip a1)).bind fun x9 =>
 (vBinV (.int .i64) .eql x9 (.int .i64 1)).bind fun x10 =>
 ifVV x10 (
 (vIndexSV (strip (strip a1)) (.int .i64 0)).bind fun x13 =>
 (extB 1 [a0, x13] fun x14 =>
  some (x14, H))) (
 (lpW' strings_Count_l6 [a0, (strip (strip a1)), (.int .i64 0)] H).bind fun r35 =>
 inN r35.1 [
 gotV 1 r35.2.1 fun v36 =>
 some ((v36 0), r35.2.2)])) := (callV_eq vb _ _ _ rfl).trans (by kernel_rfl)
theorem strings_Index_eq (a0 a1 : V) (H : VH) : cv id_strings_Index [a0, a1] H =
 (qc id_internal_stringslite_Index [(frz H a0), (frz H a1)]).bind fun x3 =>
 some (x3, H) := (callV_eq vb _ _ _ rfl).trans (by kernel_rfl)
noncomputable def internal_stringslite_Index_l15 : List V -> VH -> Option (Option Nat × List V × VH) := roundV (vb.ctx cv lpW') (vb.b.ann 181) (vb.takes 181) ⟨⟨[0, 1, 5, 6, 7, 8, 9, 10], [], []⟩, [(.exit 1, ⟨[], [], []⟩), (.ret, ⟨[4], [], []⟩)]⟩ (loopIn Tryz.f181 15)
theorem internal_stringslite_Index_eq (a0 a1 : V) (H : VH) : cv id_internal_stringslite_Index [a0, a1] H =
 (vLenSV a1).bind fun x2 =>
 (id (
 (vBinV (.int .i64) .eql x2 (.int .i64 0)).bind fun x5 =>
 ifGV x5 (
 some (0, [(.int .i64 0)], H)) (
 (vBinV .str .eql (strip a1) a0).bind fun x12 =>
 ifVV x12 (
 some (0, [(.int .i64 0)], H)) (
 (vBinV (.int .i64) .eql (strip x2) (.int .i64 1)).bind fun x17 =>
 ifVV x17 (
 (vIndexSV (strip (strip a1)) (.int .i64 0)).bind fun x21 =>
 (qc id_internal_stringslite_IndexByte [(frz H (strip a0)), (frz H x21)]).bind fun x22 =>
 some (0, [x22], H)) (
 (vLenSV (strip a0)).bind fun x26 =>
 (vBinV (.int .i64) .geq (strip (strip x2)) x26).bind fun x27 =>
 ifVV x27 (
 some (0, [(.int .i64 (-1))], H)) (
 (ldO globB false false 1 (.gp 1 0) H).bind fun r32 =>
 (vBinV (.int .i64) .leq (strip (strip (strip x2))) r32.1).bind fun x33 =>
 ifGV x33 (
 (vLenSV (strip (strip a0))).bind fun x36 =>
 (vBinV (.int .i64) .leq x36 (.int .i64 64)).bind fun x37 =>
 ifVV x37 (
 (extB 2 [(strip (strip (strip a0))), (strip (strip a1))] fun x42 =>
  some (0, [x42], r32.2))) (
 some (1, [(strip (strip (strip a0))), (strip (strip a1)), (strip (strip (strip (strip x2))))], r32.2))) (
 some (1, [(strip (strip a0)), (strip (strip a1)), (strip (strip (strip (strip x2))))], r32.2)))))) : Option (Nat × List V × VH))).bind fun r46 =>
 inN r46.1 [
 gotV 1 r46.2.1 fun v47 =>
 some ((v47 0), r46.2.2),
 gotV 3 r46.2.1 fun v48 =>
 (vIndexSV (v48 1) (.int .i64 0)).bind fun x50 =>
 (vIndexSV (strip (v48 1)) (.int .i64 1)).bind fun x53 =>
 (vLenSV (v48 0)).bind fun x57 =>
 (vBinV (.int .i64) .sub x57 (v48 2)).bind fun x59 =>
 (vBinV (.int .i64) .add x59 (.int .i64 1)).bind fun x60 =>
 (lpW' internal_stringslite_Index_l15 [(strip (v48 0)), (strip (strip (v48 1))), (strip (v48 2)), x50, x53, (.int .i64 0), x60, (.int .i64 0)] r46.2.2).bind fun r208 =>
 inN r208.1 [
 gotV 0 r208.2.1 fun v209 =>
 some ((.int .i64 (-1)), r208.2.2),
 gotV 1 r208.2.1 fun v211 =>
 some ((v211 0), r208.2.2)]] := (callV_eq vb _ _ _ rfl).trans (by kernel_rfl)
theorem internal_stringslite_IndexByte_eq (a0 a1 : V) (H : VH) : cv id_internal_stringslite_IndexByte [a0, a1] H =
 (extB 0 [a0, a1] fun x3 =>
  some (x3, H)) := (callV_eq vb _ _ _ rfl).trans (by kernel_rfl)
noncomputable def internal_bytealg_IndexRabinKarp_string__l5 : List V -> VH -> Option (Option Nat × List V × VH) := roundV (vb.ctx cv lpW') (vb.b.ann 211) (vb.takes 211) ⟨⟨[0, 1, 5, 6, 7, 8, 9], [], []⟩, [(.exit 0, ⟨[0, 1, 5, 6, 7, 8], [], []⟩)]⟩ (loopIn Tryz.f211 5)
noncomputable def internal_bytealg_IndexRabinKarp_string__l11 : List V -> VH -> Option (Option Nat × List V × VH) := roundV (vb.ctx cv lpW') (vb.b.ann 211) (vb.takes 211) ⟨⟨[0, 1, 5, 6, 7, 8, 10], [], []⟩, [(.exit 2, ⟨[], [], []⟩), (.ret, ⟨[4], [], []⟩)]⟩ (loopIn Tryz.f211 11)
noncomputable def internal_bytealg_hashStr_string__l3 : List V -> VH -> Option (Option Nat × List V × VH) := roundV (vb.ctx cv lpW') (vb.b.ann 230) (vb.takes 230) ⟨⟨[0, 4, 5], [], []⟩, [(.exit 0, ⟨[0, 4], [], []⟩)]⟩ (loopIn Tryz.f230 3)
noncomputable def internal_bytealg_hashStr_string__l8 : List V -> VH -> Option (Option Nat × List V × VH) := roundV (vb.ctx cv lpW') (vb.b.ann 230) (vb.takes 230) ⟨⟨[4, 6, 7, 8], [], []⟩, [(.exit 2, ⟨[4, 6], [], []⟩)]⟩ (loopIn Tryz.f230 8)
theorem impl_gate_line_eq (a0 a1 : V) (H : VH) : cv id_impl_gate_line [a0, a1] H =
 (qc id_strings_Cut [(frz H a1), (frz H (.str [32]))]).bind fun x2 =>
 (vExtV x2 0).bind fun x4 =>
 (vExtV x2 1).bind fun x5 =>
 (vExtV x2 2).bind fun x6 =>
 (vUnV .not (strip x6)).bind fun x11 =>
 ifVV x11 (
 (cv id_impl_gate_wordLine [(strip a0), (strip (strip x4))] H).bind fun r15 =>
 some (r15.1, r15.2)) (
 (vBinV .str .eql (strip x4) (.str [115, 97, 121])).bind fun x18 =>
 ifVV x18 (
 (cv id_impl_gate_sayLine [(strip a0), (strip (strip x5))] H).bind fun r23 =>
 some (r23.1, r23.2)) (
 (vBinV .str .eql (strip x4) (.str [98, 111, 120])).bind fun x25 =>
 ifVV x25 (
 (vNilV a0).bind fun x28 =>
 (vOffV x28 0).bind fun x29 =>
 (ldO globB false false 1 x29 H).bind fun r31 =>
 (pc id_impl_AddBox [(frz r31.2 r31.1), (frz r31.2 (strip x5))]).bind fun x33 =>
 (vExtV x33 0).bind fun x35 =>
 (vExtV (stripAt 0 x33) 1).bind fun x36 =>
 (vUnV .not (strip x36)).bind fun x40 =>
 ifVV x40 (
 some ((.str [119, 104, 97, 116, 10]), r31.2)) (
 (vNilV (strip a0)).bind fun x44 =>
 (vOffV x44 0).bind fun x45 =>
 (vOneV x35).bind fun y47 =>
 (stO x45 [y47] r31.2).bind fun H48 =>
 some ((.str [111, 107, 10]), H48))) (
 (vBinV .str .eql (strip x4) (.str [116, 97, 107, 101])).bind fun x50 =>
 ifVV x50 (
 (cv id_impl_gate_take [(strip a0), (strip (strip x5))] H).bind fun r55 =>
 some (r55.1, r55.2)) (
 (vBinV .str .eql (strip x4) (.str [100, 97, 116, 101])).bind fun x57 =>
 ifVV x57 (
 (pc id_impl_ParseDate [(frz H (strip x5))]).bind fun x60 =>
 (vExtV x60 0).bind fun x62 =>
 (vExtV x60 1).bind fun x63 =>
 (aggNV 7 (strip x62)).bind fun c66 =>
 (vUnV .not (strip x63)).bind fun x69 =>
 ifVV x69 (
 some ((.str [119, 104, 97, 116, 10]), H)) (
 (vNilV a0).bind fun x73 =>
 (vOffV x73 7).bind fun x74 =>
 (stO x74 [(strip (c66.getD 0 .nilp)), (strip (c66.getD 1 .nilp)), (strip (c66.getD 2 .nilp)), (strip (c66.getD 3 .nilp)), (strip (c66.getD 4 .nilp)), (strip (c66.getD 5 .nilp)), (strip (c66.getD 6 .nilp))] H).bind fun H76 =>
 (qc id_impl_FormatDate [(frz H76 (.agg [(strip (c66.getD 0 .nilp)), (strip (c66.getD 1 .nilp)), (strip (c66.getD 2 .nilp)), (strip (c66.getD 3 .nilp)), (strip (c66.getD 4 .nilp)), (strip (c66.getD 5 .nilp)), (strip (c66.getD 6 .nilp))]))]).bind fun x78 =>
 (vBinV .str .add x78 (.str [10])).bind fun x79 =>
 some (x79, H76))) (
 (qc id_impl_readLine [(frz H (strip (strip x4))), (frz H (strip x5))]).bind fun x83 =>
 (vExtV x83 0).bind fun x85 =>
 (vExtV x83 1).bind fun x86 =>
 (vUnV .not (strip x86)).bind fun x90 =>
 ifVV x90 (
 some ((.str [119, 104, 97, 116, 10]), H)) (
 (vBinV .str .add (.str [61, 32]) (strip x85)).bind fun x93 =>
 (vBinV .str .add x93 (.str [10])).bind fun x94 =>
 some (x94, H))))))) := (callV_eq vb _ _ _ rfl).trans (by kernel_rfl)
theorem strings_Cut_eq (a0 a1 : V) (H : VH) : cv id_strings_Cut [a0, a1] H =
 (qc id_internal_stringslite_Cut [(frz H a0), (frz H a1)]).bind fun x5 =>
 (vExtV x5 0).bind fun x6 =>
 (vExtV x5 1).bind fun x7 =>
 (vExtV x5 2).bind fun x8 =>
 some ((.tup [(strip x6), (strip x7), (strip x8)]), H) := (callV_eq vb _ _ _ rfl).trans (by kernel_rfl)
theorem internal_stringslite_Cut_eq (a0 a1 : V) (H : VH) : cv id_internal_stringslite_Cut [a0, a1] H =
 (qc id_internal_stringslite_Index [(frz H a0), (frz H a1)]).bind fun x5 =>
 (vBinV (.int .i64) .geq x5 (.int .i64 0)).bind fun x8 =>
 ifVV x8 (
 (vSliceSV (strip a0) none (some (strip x5))).bind fun x11 =>
 (vLenSV (strip a1)).bind fun x15 =>
 (vBinV (.int .i64) .add (strip (strip x5)) x15).bind fun x16 =>
 (vSliceSV (strip (strip a0)) (some x16) none).bind fun x17 =>
 some ((.tup [x11, x17, (.bool true)]), H)) (
 some ((.tup [(strip a0), (.str []), (.bool false)]), H)) := (callV_eq vb _ _ _ rfl).trans (by kernel_rfl)
theorem impl_gate_wordLine_eq (a0 a1 : V) (H : VH) : cv id_impl_gate_wordLine [a0, a1] H =
 (vBinV .str .eql a1 (.str [115, 97, 121])).bind fun x2 =>
 ifVV x2 (
 (cv id_impl_gate_sayLine [(strip a0), (.str [])] H).bind fun r6 =>
 some (r6.1, r6.2)) (
 (vBinV .str .eql a1 (.str [111, 112, 101, 110])).bind fun x8 =>
 ifVV x8 (
 (vNilV a0).bind fun x12 =>
 (vOffV x12 1).bind fun x13 =>
 (stO x13 [(.int .i64 0), (.str []), (.str []), (.sl true []), (.sl true []), (.sl true [])] H).bind fun H15 =>
 some ((.str [111, 107, 10]), H15)) (
 (vBinV .str .eql a1 (.str [99, 108, 101, 97, 114])).bind fun x17 =>
 ifVV x17 (
 (pc id_impl_newGate []).bind fun x20 =>
 (vNilV a0).bind fun x21 =>
 (aggNV 14 x20).bind fun c23 =>
 (stO x21 [(c23.getD 0 .nilp), (c23.getD 1 .nilp), (c23.getD 2 .nilp), (c23.getD 3 .nilp), (c23.getD 4 .nilp), (c23.getD 5 .nilp), (c23.getD 6 .nilp), (c23.getD 7 .nilp), (c23.getD 8 .nilp), (c23.getD 9 .nilp), (c23.getD 10 .nilp), (c23.getD 11 .nilp), (c23.getD 12 .nilp), (c23.getD 13 .nilp)] H).bind fun H24 =>
 some ((.str [111, 107, 10]), H24)) (
 (vBinV .str .eql a1 (.str [112, 97, 115, 115])).bind fun x26 =>
 ifVV x26 (
 (cv id_impl_gate_pass [(strip a0)] H).bind fun r30 =>
 some (r30.1, r30.2)) (
 (vBinV .str .eql a1 (.str [104, 101, 108, 100])).bind fun x32 =>
 ifVV x32 (
 (vNilV a0).bind fun x35 =>
 (vOffV x35 0).bind fun x36 =>
 (ldO globB false false 1 x36 H).bind fun r38 =>
 (qc id_impl_CountHeld [(frz r38.2 r38.1)]).bind fun x39 =>
 (qc id_impl_decimal [(frz r38.2 x39), (frz r38.2 (.int .i64 1))]).bind fun x40 =>
 (vBinV .str .add (.str [104, 101, 108, 100, 32]) x40).bind fun x41 =>
 (vBinV .str .add x41 (.str [10])).bind fun x42 =>
 some (x42, r38.2)) (
 (vBinV .str .eql a1 (.str [100, 111, 110, 101])).bind fun x44 =>
 ifVV x44 (
 (vNilV a0).bind fun x47 =>
 (vOffV x47 1).bind fun x48 =>
 (vOffV x48 5).bind fun x49 =>
 (ldO globB false false 1 x49 H).bind fun r51 =>
 (vLenVV r51.1).bind fun x52 =>
 (qc id_impl_decimal [(frz r51.2 x52), (frz r51.2 (.int .i64 1))]).bind fun x53 =>
 (vBinV .str .add (.str [100, 111, 110, 101, 32]) x53).bind fun x54 =>
 (vBinV .str .add x54 (.str [10])).bind fun x55 =>
 some (x55, r51.2)) (
 some ((.str [119, 104, 97, 116, 10]), H))))))) := (callV_eq vb _ _ _ rfl).trans (by kernel_rfl)
noncomputable def slices_IndexFunc___string_string__l2 : List V -> VH -> Option (Option Nat × List V × VH) := roundV (vb.ctx cv lpW') (vb.b.ann 77) (vb.takes 77) ⟨⟨[0, 1, 7, 8], [], []⟩, [(.exit 0, ⟨[], [], []⟩), (.ret, ⟨[4], [], []⟩)]⟩ (loopIn Tryz.f77 2)
noncomputable def impl_allBytes_l2 : List V -> VH -> Option (Option Nat × List V × VH) := roundV (vb.ctx cv lpW') (vb.b.ann 175) (vb.takes 175) ⟨⟨[0, 1, 7, 8], [], []⟩, [(.exit 0, ⟨[], [], []⟩), (.ret, ⟨[4], [], []⟩)]⟩ (loopIn Tryz.f175 2)
theorem impl_allBytes_l2_eq (v0 v1 v2 v3 : V) (H : VH) : impl_allBytes_l2 [v0, v1, v2, v3] H =
 (vBinV (.int .i64) .lss v3 v2).bind fun x4 =>
 ifVV x4 (
 (vIndexSV v0 v3).bind fun x10 =>
 (calleeV v1).bind fun p12 =>
 (qc p12.1 ((([x10] : List V) ++ p12.2).map (frz H))).bind fun x11 =>
 (vUnV .not x11).bind fun x13 =>
 ifVV x13 (
 some (some 1, [(.bool false)], H)) (
 (vBinV (.int .i64) .add (strip v3) (.int .i64 1)).bind fun x15 =>
 some (none, [(strip v0), (strip v1), v2, x15], H))) (
 some (some 0, [], H)) := by kernel_rfl
theorem impl_allBytes_eq (a0 a1 : V) (H : VH) : cv id_impl_allBytes [a0, a1] H =
 (vLenSV a0).bind fun x2 =>
 (lpW' impl_allBytes_l2 [(strip a0), a1, x2, (.int .i64 0)] H).bind fun r17 =>
 inN r17.1 [
 gotV 0 r17.2.1 fun v18 =>
 some ((.bool true), r17.2.2),
 gotV 1 r17.2.1 fun v20 =>
 some ((v20 0), r17.2.2)] := (callV_eq vb _ _ _ rfl).trans (by kernel_rfl)
theorem impl_isDigit_eq (a0 : V) (H : VH) : cv id_impl_isDigit [a0] H =
 (vBinV (.int .u8) .geq a0 (.int .u8 48)).bind fun x2 =>
 ifGV x2 (
 (vBinV (.int .u8) .leq (strip a0) (.int .u8 57)).bind fun x5 =>
 some (x5, H)) (
 some ((.bool false), H)) := (callV_eq vb _ _ _ rfl).trans (by kernel_rfl)
noncomputable def impl_TextValid_l2 : List V -> VH -> Option (Option Nat × List V × VH) := roundV (vb.ctx cv lpW') (vb.b.ann 32) (vb.takes 32) ⟨⟨[0, 5, 6], [], []⟩, [(.exit 0, ⟨[0], [], []⟩), (.ret, ⟨[2], [], []⟩)]⟩ (loopIn Tryz.f32 2)
theorem impl_TextValid_l2_eq (v0 v1 v2 : V) (H : VH) : impl_TextValid_l2 [v0, v1, v2] H =
 (vBinV (.int .i64) .lss v2 v1).bind fun x4 =>
 ifVV x4 (
 (vIndexSV v0 v2).bind fun x9 =>
 (vBinV (.int .u8) .lss x9 (.int .u8 32)).bind fun x10 =>
 ifGV x10 (
 some (some 1, [(.bool false)], H)) (
 (vIndexSV (strip v0) (strip v2)).bind fun x16 =>
 (vBinV (.int .u8) .gtr x16 (.int .u8 126)).bind fun x17 =>
 ifVV x17 (
 some (some 1, [(.bool false)], H)) (
 (vBinV (.int .i64) .add (strip v2) (.int .i64 1)).bind fun x20 =>
 some (none, [(strip (strip v0)), v1, x20], H)))) (
 some (some 0, [v0], H)) := by kernel_rfl
theorem impl_TextValid_eq (a0 : V) (H : VH) : cv id_impl_TextValid [a0] H =
 (vLenSV a0).bind fun x2 =>
 (lpW' impl_TextValid_l2 [(strip a0), x2, (.int .i64 0)] H).bind fun r22 =>
 inN r22.1 [
 gotV 1 r22.2.1 fun v23 =>
 (vLenSV (v23 0)).bind fun x25 =>
 (vBinV (.int .i64) .leq x25 (.int .i64 200)).bind fun x26 =>
 some (x26, r22.2.2),
 gotV 1 r22.2.1 fun v28 =>
 some ((v28 0), r22.2.2)] := (callV_eq vb _ _ _ rfl).trans (by kernel_rfl)
noncomputable def slices_IndexFunc___impl_Mail_impl_Mail__l2 : List V -> VH -> Option (Option Nat × List V × VH) := roundV (vb.ctx cv lpW') (vb.b.ann 236) (vb.takes 236) ⟨⟨[0, 1, 7, 8], [], []⟩, [(.exit 0, ⟨[], [], []⟩), (.ret, ⟨[4], [], []⟩)]⟩ (loopIn Tryz.f236 2)
noncomputable def impl_copyMails_l3 : List V -> VH -> Option (Option Nat × List V × VH) := roundV (vb.ctx cv lpW') (vb.b.ann 194) (vb.takes 194) ⟨⟨[3, 7, 8, 9], [], []⟩, [(.exit 0, ⟨[3], [], []⟩)]⟩ (loopIn Tryz.f194 3)
noncomputable def impl_outside_l2 : List V -> VH -> Option (Option Nat × List V × VH) := roundV (vb.ctx cv lpW') (vb.b.ann 54) (vb.takes 54) ⟨⟨[0, 1, 5], [], []⟩, [(.exit 0, ⟨[], [], []⟩), (.ret, ⟨[4], [], []⟩)]⟩ (loopIn Tryz.f54 2)
noncomputable def impl_quoted_l3 : List V -> VH -> Option (Option Nat × List V × VH) := roundV (vb.ctx cv lpW') (vb.b.ann 106) (vb.takes 106) ⟨⟨[0, 5, 6], [], []⟩, [(.exit 0, ⟨[], [], []⟩), (.ret, ⟨[2, 3, 4], [], []⟩)]⟩ (loopIn Tryz.f106 3)
noncomputable def impl_LowerText_l3 : List V -> VH -> Option (Option Nat × List V × VH) := roundV (vb.ctx cv lpW') (vb.b.ann 79) (vb.takes 79) ⟨⟨[3, 8, 9, 10], [], []⟩, [(.exit 0, ⟨[3], [], []⟩)]⟩ (loopIn Tryz.f79 3)
noncomputable def slices_BinarySearchFunc___impl_Box_impl_Box_string__l3 : List V -> VH -> Option (Option Nat × List V × VH) := roundV (vb.ctx cv lpW') (vb.b.ann 188) (vb.takes 188) ⟨⟨[0, 1, 2, 8, 9, 10], [], []⟩, [(.exit 0, ⟨[0, 1, 2, 8, 9], [], []⟩)]⟩ (loopIn Tryz.f188 3)
noncomputable def impl_BoxesValid_l2 : List V -> VH -> Option (Option Nat × List V × VH) := roundV (vb.ctx cv lpW') (vb.b.ann 139) (vb.takes 139) ⟨⟨[0, 5, 6, 7], [], []⟩, [(.exit 0, ⟨[0], [], []⟩), (.ret, ⟨[2], [], []⟩)]⟩ (loopIn Tryz.f139 2)
noncomputable def impl_copyBoxes_l3 : List V -> VH -> Option (Option Nat × List V × VH) := roundV (vb.ctx cv lpW') (vb.b.ann 141) (vb.takes 141) ⟨⟨[3, 7, 8, 9], [], []⟩, [(.exit 0, ⟨[3], [], []⟩)]⟩ (loopIn Tryz.f141 3)
theorem impl_ParseDate_eq (a0 : V) (H : VH) : cv id_impl_ParseDate [a0] H =
 (qc id_impl_TextValid [(frz H a0)]).bind fun x3 =>
 (vUnV .not x3).bind fun x4 =>
 ifVV x4 (
 some ((.tup [(.agg [(.int .i64 0), (.int .i64 0), (.int .i64 0), (.int .i64 0), (.int .i64 0), (.int .i64 0), (.int .i64 0)]), (.bool false)]), H)) (
 (qc id_strings_Cut [(frz H (strip a0)), (frz H (.str [44]))]).bind fun x9 =>
 (vExtV x9 0).bind fun x11 =>
 (vExtV x9 1).bind fun x12 =>
 (vExtV x9 2).bind fun x13 =>
 (id (
 (vUnV .not (strip x13)).bind fun x18 =>
 ifVV x18 (
 some (0, [(strip x11), (strip (strip a0)), (strip (strip x13)), (.int .i64 0), (.int .i64 0), (.int .i64 0), (.int .i64 0), (.int .i64 0), (.int .i64 0), (.int .i64 0)], H)) (
 some (0, [(strip x11), (strip x12), (strip (strip x13)), (.int .i64 0), (.int .i64 0), (.int .i64 0), (.int .i64 0), (.int .i64 0), (.int .i64 0), (.int .i64 0)], H)) : Option (Nat × List V × VH))).bind fun r21 =>
 inN r21.1 [
 gotV 10 r21.2.1 fun v22 =>
 (pcg id_strings_Split r21.2.2 [(v22 1), (.str [32])]).bind fun r25 =>
 (cv id_slices_DeleteFunc___string_string_ [(strip r25.1), (.fn id_impl_ParseDate_1 [])] r25.2).bind fun r27 =>
 (vOneV r27.1).bind fun y30 =>
 (stO (.ptr r27.2.length 0) [y30] (r27.2 ++ [[(.sl true [])]])).bind fun H31 =>
 (ldO globB false false 1 (.ptr r27.2.length 0) H31).bind fun r33 =>
 (vLenVV r33.1).bind fun x34 =>
 (vBinV (.int .i64) .neq x34 (.int .i64 5)).bind fun x35 =>
 ifVV x35 (
 some ((.tup [(.agg [(.int .i64 0), (.int .i64 0), (.int .i64 0), (.int .i64 0), (.int .i64 0), (.int .i64 0), (.int .i64 0)]), (.bool false)]), r33.2)) (
 (ldO globB false false 1 (.ptr r27.2.length 0) r33.2).bind fun r40 =>
 (vIdxV 1 r40.1 (.int .i64 0)).bind fun x41 =>
 (ldO globB false false 1 x41 r40.2).bind fun r43 =>
 (qc id_impl_digits [(frz r43.2 r43.1), (frz r43.2 (.int .i64 1)), (frz r43.2 (.int .i64 2))]).bind fun x44 =>
 (vExtV x44 0).bind fun x46 =>
 (vExtV x44 1).bind fun x47 =>
 (vSliceAV globB 12 1 (.gp 0 0)).bind fun x50 =>
 (qcd id_slices_IndexFunc___string_string_ r43.2 [x50, (.fn id_impl_ParseDate_2 [(.ptr r27.2.length 0)])]).bind fun x52 =>
 (vBinV (.int .i64) .add x52 (.int .i64 1)).bind fun x53 =>
 (ldO globB false false 1 (.ptr r27.2.length 0) r43.2).bind fun r56 =>
 (vIdxV 1 r56.1 (.int .i64 2)).bind fun x57 =>
 (ldO globB false false 1 x57 r56.2).bind fun r59 =>
 (qc id_impl_digits [(frz r59.2 r59.1), (frz r59.2 (.int .i64 4)), (frz r59.2 (.int .i64 4))]).bind fun x60 =>
 (vExtV x60 0).bind fun x62 =>
 (vExtV x60 1).bind fun x63 =>
 (ldO globB false false 1 (.ptr r27.2.length 0) r59.2).bind fun r67 =>
 (vIdxV 1 r67.1 (.int .i64 3)).bind fun x68 =>
 (ldO globB false false 1 x68 r67.2).bind fun r70 =>
 (pc id_impl_parseTime [(frz r70.2 r70.1)]).bind fun x71 =>
 (vExtV x71 0).bind fun x73 =>
 (vExtV x71 1).bind fun x74 =>
 (aggNV 3 (strip x73)).bind fun c77 =>
 (stO (.ptr r70.2.length 0) [(c77.getD 0 .nilp), (c77.getD 1 .nilp), (c77.getD 2 .nilp)] (r70.2 ++ [[(.int .i64 0), (.int .i64 0), (.int .i64 0)]])).bind fun H78 =>
 (ldO globB false false 1 (.ptr r27.2.length 0) H78).bind fun r81 =>
 (vIdxV 1 r81.1 (.int .i64 4)).bind fun x82 =>
 (ldO globB false false 1 x82 r81.2).bind fun r84 =>
 (qc id_impl_parseZone [(frz r84.2 r84.1)]).bind fun x85 =>
 (vExtV x85 0).bind fun x87 =>
 (vExtV x85 1).bind fun x88 =>
 (vIdxAV 3 1 (.ptr r70.2.length 0) (.int .i64 0)).bind fun x94 =>
 (ldO globB false false 1 x94 r84.2).bind fun r96 =>
 (vIdxAV 3 1 (.ptr r70.2.length 0) (.int .i64 1)).bind fun x97 =>
 (ldO globB false false 1 x97 r96.2).bind fun r99 =>
 (vIdxAV 3 1 (.ptr r70.2.length 0) (.int .i64 2)).bind fun x100 =>
 (ldO globB false false 1 x100 r99.2).bind fun r102 =>
 (vOneV (strip x62)).bind fun y105 =>
 (vOneV x53).bind fun y106 =>
 (vOneV (strip x46)).bind fun y107 =>
 (vOneV r96.1).bind fun y108 =>
 (vOneV r99.1).bind fun y109 =>
 (vOneV r102.1).bind fun y110 =>
 (vOneV (strip x87)).bind fun y111 =>
 (id (
 (vUnV .not (strip x47)).bind fun x115 =>
 ifGV x115 (
 some (0, [(.bool false), (.int .i64 0), (.int .i64 0), (.int .i64 0), (.int .i64 0), (.int .i64 0), (.int .i64 0), (.int .i64 0)], r102.2)) (
 (vUnV .not (strip x63)).bind fun x130 =>
 ifGV x130 (
 some (0, [(.bool false), (.int .i64 0), (.int .i64 0), (.int .i64 0), (.int .i64 0), (.int .i64 0), (.int .i64 0), (.int .i64 0)], r102.2)) (
 (vUnV .not (strip x74)).bind fun x144 =>
 ifGV x144 (
 some (0, [(.bool false), (.int .i64 0), (.int .i64 0), (.int .i64 0), (.int .i64 0), (.int .i64 0), (.int .i64 0), (.int .i64 0)], r102.2)) (
 (vUnV .not (strip x88)).bind fun x156 =>
 ifGV x156 (
 some (0, [(.bool false), (.int .i64 0), (.int .i64 0), (.int .i64 0), (.int .i64 0), (.int .i64 0), (.int .i64 0), (.int .i64 0)], r102.2)) (
 (qc id_impl_DateValid [(frz r102.2 (.agg [(strip y105), (strip y106), (strip y107), (strip y108), (strip y109), (strip y110), (strip y111)]))]).bind fun x166 =>
 (vUnV .not x166).bind fun x167 =>
 ifGV x167 (
 some (0, [(.bool false), (.int .i64 0), (.int .i64 0), (.int .i64 0), (.int .i64 0), (.int .i64 0), (.int .i64 0), (.int .i64 0)], r102.2)) (
 ifGV (v22 2) (
 (qc id_strings_Trim [(frz r102.2 (v22 0)), (frz r102.2 (.str [32]))]).bind fun x177 =>
 (qc id_impl_WeekdayOf [(frz r102.2 (.agg [(strip y105), (strip y106), (strip y107), (strip y108), (strip y109), (strip y110), (strip y111)]))]).bind fun x179 =>
 (qc id_impl_SameText [(frz r102.2 x177), (frz r102.2 x179)]).bind fun x180 =>
 (vUnV .not x180).bind fun x181 =>
 ifVV x181 (
 some (0, [(.bool false), (.int .i64 0), (.int .i64 0), (.int .i64 0), (.int .i64 0), (.int .i64 0), (.int .i64 0), (.int .i64 0)], r102.2)) (
 some (1, [(v22 3), (v22 4), (v22 5), (v22 6), (v22 7), (v22 8), (v22 9), y105, y106, y107, y108, y109, y110, y111], r102.2))) (
 some (1, [(v22 3), (v22 4), (v22 5), (v22 6), (v22 7), (v22 8), (v22 9), y105, y106, y107, y108, y109, y110, y111], r102.2))))))) : Option (Nat × List V × VH))).bind fun r189 =>
 inN r189.1 [
 gotV 8 r189.2.1 fun v190 =>
 some ((.tup [(.agg [(v190 1), (v190 2), (v190 3), (v190 4), (v190 5), (v190 6), (v190 7)]), (v190 0)]), r189.2.2),
 gotV 14 r189.2.1 fun v191 =>
 some ((.tup [(.agg [(strip (v191 7)), (strip (v191 8)), (strip (v191 9)), (strip (v191 10)), (strip (v191 11)), (strip (v191 12)), (strip (v191 13))]), (.bool true)]), r189.2.2)])]) := (callV_eq vb _ _ _ rfl).trans (by kernel_rfl)
noncomputable def impl_digits_l5 : List V -> VH -> Option (Option Nat × List V × VH) := roundV (vb.ctx cv lpW') (vb.b.ann 145) (vb.takes 145) ⟨⟨[0, 8, 22, 23], [], []⟩, [(.exit 0, ⟨[8], [], []⟩)]⟩ (loopIn Tryz.f145 5)
theorem impl_digits_l5_eq (v0 v1 v2 v3 : V) (H : VH) : impl_digits_l5 [v0, v1, v2, v3] H =
 (vBinV (.int .i64) .lss v3 v2).bind fun x25 =>
 ifVV x25 (
 (vBinV (.int .i64) .mul (.int .i64 10) v1).bind fun x29 =>
 (vIndexSV v0 v3).bind fun x32 =>
 (vBinV (.int .u8) .sub x32 (.int .u8 48)).bind fun x33 =>
 (vConvV .i64 x33).bind fun x34 =>
 (vBinV (.int .i64) .add x29 x34).bind fun x35 =>
 (vBinV (.int .i64) .add (strip v3) (.int .i64 1)).bind fun x37 =>
 some (none, [(strip v0), x35, v2, x37], H)) (
 some (some 0, [v1], H)) := by kernel_rfl
theorem impl_digits_eq (a0 a1 a2 : V) (H : VH) : cv id_impl_digits [a0, a1, a2] H =
 (id (
 (vLenSV a0).bind fun x3 =>
 (qc id_impl_between [(frz H x3), (frz H a1), (frz H a2)]).bind fun x6 =>
 (vUnV .not x6).bind fun x7 =>
 ifGV x7 (
 some (0, [(.int .i64 0), (.bool false)], H)) (
 (qc id_impl_allBytes [(frz H (strip a0)), (frz H (.fn id_impl_isDigit []))]).bind fun x13 =>
 (vUnV .not x13).bind fun x14 =>
 ifVV x14 (
 some (0, [(.int .i64 0), (.bool false)], H)) (
 some (1, [(strip (strip a0))], H))) : Option (Nat × List V × VH))).bind fun r18 =>
 inN r18.1 [
 gotV 2 r18.2.1 fun v19 =>
 some ((.tup [(v19 0), (v19 1)]), r18.2.2),
 gotV 1 r18.2.1 fun v20 =>
 (vLenSV (v20 0)).bind fun x23 =>
 (lpW' impl_digits_l5 [(strip (v20 0)), (.int .i64 0), x23, (.int .i64 0)] r18.2.2).bind fun r39 =>
 inN r39.1 [
 gotV 1 r39.2.1 fun v40 =>
 some ((.tup [(v40 0), (.bool true)]), r39.2.2)]] := (callV_eq vb _ _ _ rfl).trans (by kernel_rfl)
noncomputable def impl_parseTime_l5 : List V -> VH -> Option (Option Nat × List V × VH) := roundV (vb.ctx cv lpW') (vb.b.ann 148) (vb.takes 148) ⟨⟨[4, 18, 19, 20], [(2, (2, 0))], [(2, 3)]⟩, [(.exit 0, ⟨[4], [(2, (2, 0))], [(2, 3)]⟩), (.ret, ⟨[3], [(2, (2, 0))], [(2, 3)]⟩)]⟩ (loopIn Tryz.f148 5)
theorem impl_parseTime_l5_eq (v0 v1 v2 v3 v4 v5 v6 : V) (H : VH) : impl_parseTime_l5 [v0, v1, v2, v3, v4, v5, v6] H =
 (vBinV (.int .i64) .lss v3 v2).bind fun x21 =>
 ifVV x21 (
 (vIdxV 1 v1 (strip v3)).bind fun x23 =>
 (ldO globB false false 1 x23 H).bind fun r25 =>
 (qc id_impl_digits [(frz r25.2 r25.1), (frz r25.2 (.int .i64 2)), (frz r25.2 (.int .i64 2))]).bind fun x29 =>
 (vExtV x29 0).bind fun x31 =>
 (vExtV x29 1).bind fun x32 =>
 (vUnV .not (strip x32)).bind fun x36 =>
 ifVV x36 (
 (ldO globB false true 3 v0 r25.2).bind fun r38 =>
 (aggNV 3 r38.1).bind fun c40 =>
 some (some 1, [(.bool false), (c40.getD 0 .nilp), (c40.getD 1 .nilp), (c40.getD 2 .nilp)], r38.2)) (
 (vIdxAV 3 1 v0 v3).bind fun x44 =>
 (vOneV (strip x31)).bind fun y46 =>
 (stO x44 [y46] r25.2).bind fun H47 =>
 (vBinV (.int .i64) .add (strip v3) (.int .i64 1)).bind fun x48 =>
 some (none, [v0, v1, v2, x48, v4, v5, v6], H47))) (
 some (some 0, [v0, v4, v5, v6], H)) := by kernel_rfl
theorem impl_parseTime_eq (a0 : V) (H : VH) : cv id_impl_parseTime [a0] H =
 (pc id_strings_Split [(frz H a0), (frz H (.str [58]))]).bind fun x4 =>
 (stO (.ptr H.length 0) [(.int .i64 0), (.int .i64 0), (.int .i64 0)] (H ++ [[(.int .i64 0), (.int .i64 0), (.int .i64 0)]])).bind fun H7 =>
 (vLenVV (strip (strip x4))).bind fun x10 =>
 (qc id_impl_between [(frz H7 x10), (frz H7 (.int .i64 2)), (frz H7 (.int .i64 3))]).bind fun x11 =>
 (vUnV .not x11).bind fun x12 =>
 ifVV x12 (
 (ldO globB false true 3 (.ptr H.length 0) H7).bind fun r14 =>
 (aggNV 3 r14.1).bind fun c16 =>
 some ((.tup [(.agg [(c16.getD 0 .nilp), (c16.getD 1 .nilp), (c16.getD 2 .nilp)]), (.bool false)]), r14.2)) (
 (vLenVV (strip (strip x4))).bind fun x19 =>
 (lpW' impl_parseTime_l5 [(.ptr H.length 0), (strip (strip x4)), x19, (.int .i64 0), (.int .i64 0), (.int .i64 0), (.int .i64 0)] H7).bind fun r50 =>
 inN r50.1 [
 gotV 4 r50.2.1 fun v51 =>
 (ldO globB false true 3 (v51 0) r50.2.2).bind fun r53 =>
 (aggNV 3 r53.1).bind fun c55 =>
 some ((.tup [(.agg [(c55.getD 0 .nilp), (c55.getD 1 .nilp), (c55.getD 2 .nilp)]), (.bool true)]), r53.2),
 gotV 4 r50.2.1 fun v57 =>
 some ((.tup [(.agg [(v57 1), (v57 2), (v57 3)]), (v57 0)]), r50.2.2)]) := (callV_eq vb _ _ _ rfl).trans (by kernel_rfl)
theorem impl_parseZone_eq (a0 : V) (H : VH) : cv id_impl_parseZone [a0] H =
 (id (
 (vBinV .str .eql a0 (.str [71, 77, 84])).bind fun x3 =>
 ifGV x3 (
 some (0, [(.int .i64 0), (.bool true)], H)) (
 (vBinV .str .eql (strip a0) (.str [85, 84])).bind fun x9 =>
 ifVV x9 (
 some (0, [(.int .i64 0), (.bool true)], H)) (
 some (1, [(strip (strip a0))], H))) : Option (Nat × List V × VH))).bind fun r13 =>
 inN r13.1 [
 gotV 2 r13.2.1 fun v14 =>
 some ((.tup [(v14 0), (v14 1)]), r13.2.2),
 gotV 1 r13.2.1 fun v15 =>
 (id (
 (vLenSV (v15 0)).bind fun x17 =>
 (vBinV (.int .i64) .neq x17 (.int .i64 5)).bind fun x18 =>
 ifGV x18 (
 some (0, [(.int .i64 0), (.bool false)], r13.2.2)) (
 (vIndexSV (strip (v15 0)) (.int .i64 0)).bind fun x24 =>
 (vBinV (.int .u8) .neq x24 (.int .u8 43)).bind fun x25 =>
 ifGV x25 (
 (vIndexSV (strip (strip (v15 0))) (.int .i64 0)).bind fun x28 =>
 (vBinV (.int .u8) .neq x28 (.int .u8 45)).bind fun x29 =>
 ifVV x29 (
 some (0, [(.int .i64 0), (.bool false)], r13.2.2)) (
 some (1, [(strip (strip (strip (v15 0))))], r13.2.2))) (
 some (1, [(strip (strip (v15 0)))], r13.2.2))) : Option (Nat × List V × VH))).bind fun r36 =>
 inN r36.1 [
 gotV 2 r36.2.1 fun v37 =>
 some ((.tup [(v37 0), (v37 1)]), r36.2.2),
 gotV 1 r36.2.1 fun v38 =>
 (vSliceSV (v38 0) (some (.int .i64 1)) (some (.int .i64 3))).bind fun x40 =>
 (qc id_impl_digits [(frz r36.2.2 x40), (frz r36.2.2 (.int .i64 2)), (frz r36.2.2 (.int .i64 2))]).bind fun x41 =>
 (vExtV x41 0).bind fun x43 =>
 (vExtV x41 1).bind fun x44 =>
 (vSliceSV (strip (v38 0)) (some (.int .i64 3)) none).bind fun x48 =>
 (qc id_impl_digits [(frz r36.2.2 x48), (frz r36.2.2 (.int .i64 2)), (frz r36.2.2 (.int .i64 2))]).bind fun x49 =>
 (vExtV x49 0).bind fun x51 =>
 (vExtV x49 1).bind fun x52 =>
 (vBinV (.int .i64) .mul (.int .i64 60) (strip x43)).bind fun x56 =>
 (vBinV (.int .i64) .add x56 (strip x51)).bind fun x58 =>
 (id (
 (vIndexSV (strip (strip (v38 0))) (.int .i64 0)).bind fun x61 =>
 (vBinV (.int .u8) .eql x61 (.int .u8 45)).bind fun x62 =>
 ifVV x62 (
 (vUnV .neg x58).bind fun x64 =>
 some (0, [(strip x44), (strip (strip x51)), (strip x52), x64], r36.2.2)) (
 some (0, [(strip x44), (strip (strip x51)), (strip x52), x58], r36.2.2)) : Option (Nat × List V × VH))).bind fun r66 =>
 inN r66.1 [
 gotV 4 r66.2.1 fun v67 =>
 ifGV (v67 0) (
 ifGV (v67 2) (
 (vBinV (.int .i64) .leq (v67 1) (.int .i64 59)).bind fun x75 =>
 some ((.tup [(v67 3), x75]), r66.2.2)) (
 some ((.tup [(v67 3), (.bool false)]), r66.2.2))) (
 some ((.tup [(v67 3), (.bool false)]), r66.2.2))]]] := (callV_eq vb _ _ _ rfl).trans (by kernel_rfl)
noncomputable def strings_trimRightByte_l1 : List V -> VH -> Option (Option Nat × List V × VH) := roundV (vb.ctx cv lpW') (vb.b.ann 100) (vb.takes 100) ⟨⟨[0, 1], [], []⟩, [(.exit 0, ⟨[0], [], []⟩)]⟩ (loopIn Tryz.f100 1)
noncomputable def strings_trimLeftByte_l1 : List V -> VH -> Option (Option Nat × List V × VH) := roundV (vb.ctx cv lpW') (vb.b.ann 99) (vb.takes 99) ⟨⟨[0, 1], [], []⟩, [(.exit 0, ⟨[0], [], []⟩)]⟩ (loopIn Tryz.f99 1)
end Go.Proofs.YtncekccimhohgaaGreatDoor.Q
