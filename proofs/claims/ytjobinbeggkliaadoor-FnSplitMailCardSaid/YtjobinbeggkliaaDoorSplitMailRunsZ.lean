/- What a call of each function comes to. -/
import Derived.Test.YtjobinbeggkliaaDoorSplitMailBaseZ
namespace Go.Proofs.YtjobinbeggkliaaDoor.Q
open Go Go.AM Go.Proofs
set_option linter.unusedVariables false
set_option maxRecDepth 100000
/-! loop.example/mailwire/laws.FnSplitMail : kind 1, moves [0] -/
noncomputable def laws_FnSplitMail_l11 : List V → VH → Option (Option Nat × List V × VH) := roundV (vb.ctx cv lpW') (vb.b.ann 7) (vb.takes 7) ⟨⟨[4, 6, 10, 11], [(3, (3, 0)), (8, (8, 0))], [(3, 3), (8, 3)]⟩, [(.exit 0, ⟨[4, 10], [(8, (8, 0))], [(8, 3)]⟩), (.ret, ⟨[2], [], []⟩)]⟩ (loopIn Tryd.f7 11)
theorem laws_FnSplitMail_l11_eq (v0 v1 v2 v3 v4 v5 v6 v7 v8 v9 : V) (H : VH) : laws_FnSplitMail_l11 [v0, v1, v2, v3, v4, v5, v6, v7, v8, v9] H =
  (vLenVV (strip v0)).bind fun x60_99 =>
  (vBinV (.int .i64) .lss v3 x60_99).bind fun x61_100 =>
  ifVV x61_100 (
  (id (
  (vIdxV 3 (strip v0) (strip v3)).bind fun x67_104 =>
  (vOffV x67_104 1).bind fun x68_105 =>
  (ldO globB false false 1 x68_105 H).bind fun r107 =>
  (vLenVV r107.1).bind fun x70_108 =>
  (vBinV (.int .i64) .add v2 x70_108).bind fun x71_109 =>
  (vIdxV 3 (strip v0) (strip (strip v3))).bind fun x75_113 =>
  (ldO globB true true 3 x75_113 r107.2).bind fun r115 =>
  (pc id_impl_SplitMail [(frz r115.2 r115.1)]).bind fun x77_116 =>
  (vExtV x77_116 0).bind fun x78_118 =>
  (vExtV x77_116 1).bind fun x79_119 =>
  (vIdxV 3 (strip v0) (strip (strip (strip v3)))).bind fun x82_124 =>
  (ldO globB false true 3 x82_124 r115.2).bind fun r126 =>
  (vIdxV 3 (strip v1) (strip (strip (strip (strip v3))))).bind fun x86_129 =>
  (ldO globB false true 3 x86_129 r126.2).bind fun r131 =>
  (qc id_impl_MailSame [(frz r131.2 r126.1), (frz r131.2 r131.1)]).bind fun x88_132 =>
  (vUnV .not x88_132).bind fun x89_133 =>
  ifGV x89_133 (
  some (0, [(.bool false)], r131.2)) (
  (vIdxV 3 (strip v0) (strip (strip (strip (strip (strip v3)))))).bind fun x93_145 =>
  (ldO globB false true 3 x93_145 r131.2).bind fun r147 =>
  (qc id_impl_MailValid [(frz r147.2 r147.1)]).bind fun x95_148 =>
  (vUnV .not x95_148).bind fun x96_149 =>
  ifGV x96_149 (
  some (0, [(.bool false)], r147.2)) (
  (vUnV .not (strip x79_119)).bind fun x100_159 =>
  ifGV x100_159 (
  some (0, [(.bool false)], r147.2)) (
  (vLenVV (strip (strip (strip x78_118)))).bind fun x104_167 =>
  (vBinV (.int .i64) .neq x104_167 (.int .i64 1)).bind fun x105_168 =>
  ifGV x105_168 (
  some (0, [(.bool false)], r147.2)) (
  (vIdxV 3 (strip v0) (strip (strip (strip (strip (strip (strip v3))))))).bind fun x110_175 =>
  (vOffV x110_175 2).bind fun x111_176 =>
  (ldO globB false false 1 x111_176 r147.2).bind fun r178 =>
  (qc id_laws_mwTexts [(frz r178.2 r178.1), (frz r178.2 (strip v6))]).bind fun x115_181 =>
  (vUnV .not x115_181).bind fun x116_182 =>
  ifVV x116_182 (
  some (0, [(.bool false)], r178.2)) (
  some (1, [v0, v1, x71_109, (strip (strip (strip (strip (strip (strip (strip v3))))))), v4, v5, v6, v7, v8, v9], r178.2)))))) : Option (Nat × List V × VH))).bind fun r185 =>
  inN r185.1 [
  gotV 1 r185.2.1 fun v186 =>
  some (some 1, [(v186 0)], r185.2.2),
  gotV 10 r185.2.1 fun v187 =>
  (vBinV (.int .i64) .add (v187 3) (.int .i64 1)).bind fun x63_189 =>
  some (none, [(v187 0), (v187 1), (v187 2), x63_189, (v187 4), (v187 5), (v187 6), (v187 7), (v187 8), (v187 9)], r185.2.2)]) (
  some (some 0, [v0, v2, v7, v8, v9], H)) := by kernel_rfl
theorem laws_FnSplitMail_eq (a0 : V) (H : VH) : cv id_laws_FnSplitMail [a0] H =
  (vLenVV (strip a0)).bind fun x15_2 =>
  (vBinV (.int .i64) .gtr x15_2 (.int .i64 1048576)).bind fun x16_3 =>
  ifVV x16_3 (
  some ((.bool true), H)) (
  (cv id_spec_DrawSplitMail [a0] H).bind fun r7 =>
  (aggNV 3 r7.1).bind fun c10 =>
  (pc id_impl_SplitMail [(frz r7.2 (.agg [(c10.getD 0 .nilp), (c10.getD 1 .nilp), (c10.getD 2 .nilp)]))]).bind fun x21_12 =>
  (vExtV x21_12 0).bind fun x22_14 =>
  (vExtV x21_12 1).bind fun x23_15 =>
  (pc id_spec_SplitMail [(frz r7.2 (.agg [(strip (c10.getD 0 .nilp)), (strip (c10.getD 1 .nilp)), (strip (c10.getD 2 .nilp))]))]).bind fun x26_19 =>
  (vExtV x26_19 0).bind fun x27_21 =>
  (vExtV x26_19 1).bind fun x28_22 =>
  (id (
  (vLenVV (strip (strip (strip x22_14)))).bind fun x30_26 =>
  (vLenVV (strip (strip (strip x27_21)))).bind fun x32_28 =>
  (vBinV (.int .i64) .neq x30_26 x32_28).bind fun x33_29 =>
  ifGV x33_29 (
  (vLenVV (strip (strip (strip x22_14)))).bind fun x44_35 =>
  (vLenVV (strip (strip (strip x27_21)))).bind fun x46_37 =>
  (vBinV (.int .i64) .eql x44_35 x46_37).bind fun x47_38 =>
  ifGV x47_38 (
  (vBinV .bool .eql (strip x23_15) (strip x28_22)).bind fun x51_42 =>
  some (0, [x51_42], r7.2)) (
  some (0, [(.bool false)], r7.2))) (
  (vBinV .bool .neq (strip x23_15) (strip x28_22)).bind fun x37_49 =>
  ifGV x37_49 (
  (vLenVV (strip (strip (strip x22_14)))).bind fun x44_54 =>
  (vLenVV (strip (strip (strip x27_21)))).bind fun x46_56 =>
  (vBinV (.int .i64) .eql x44_54 x46_56).bind fun x47_57 =>
  ifGV x47_57 (
  (vBinV .bool .eql (strip (strip x23_15)) (strip (strip x28_22))).bind fun x51_61 =>
  some (0, [x51_61], r7.2)) (
  some (0, [(.bool false)], r7.2))) (
  (vUnV .not (strip (strip x23_15))).bind fun x41_67 =>
  ifVV x41_67 (
  (vLenVV (strip (strip (strip x22_14)))).bind fun x44_70 =>
  (vLenVV (strip (strip (strip x27_21)))).bind fun x46_72 =>
  (vBinV (.int .i64) .eql x44_70 x46_72).bind fun x47_73 =>
  ifGV x47_73 (
  (vBinV .bool .eql (strip (strip (strip x23_15))) (strip (strip x28_22))).bind fun x51_77 =>
  some (0, [x51_77], r7.2)) (
  some (0, [(.bool false)], r7.2))) (
  some (1, [(strip (strip x22_14)), (strip (strip x27_21)), (strip (strip (c10.getD 0 .nilp))), (strip (strip (c10.getD 1 .nilp))), (strip (strip (c10.getD 2 .nilp)))], r7.2)))) : Option (Nat × List V × VH))).bind fun r82 =>
  inN r82.1 [
  gotV 1 r82.2.1 fun v83 =>
  some ((v83 0), r82.2.2),
  gotV 5 r82.2.1 fun v84 =>
  (cv id_impl_NormalMail [(.agg [(v84 2), (v84 3), (v84 4)])] r82.2.2).bind fun r87 =>
  (vExtV r87.1 0).bind fun x56_89 =>
  (vExtV r87.1 1).bind fun x57_90 =>
  (aggNV 3 (strip x56_89)).bind fun c93 =>
  (lpW' laws_FnSplitMail_l11 [(v84 0), (v84 1), (.int .i64 0), (.int .i64 0), (strip (v84 2)), (strip (v84 3)), (strip (v84 4)), (c93.getD 0 .nilp), (c93.getD 1 .nilp), (c93.getD 2 .nilp)] r87.2).bind fun r191 =>
  inN r191.1 [
  gotV 5 r191.2.1 fun v192 =>
  (vLenVV (strip (v192 3))).bind fun x121_196 =>
  (vBinV (.int .i64) .eql (v192 1) x121_196).bind fun x122_197 =>
  ifGV x122_197 (
  (vLenVV (strip (v192 0))).bind fun x125_200 =>
  (vBinV (.int .i64) .gtr x125_200 (.int .i64 0)).bind fun x126_201 =>
  some (x126_201, r191.2.2)) (
  some ((.bool false), r191.2.2)),
  gotV 1 r191.2.1 fun v206 =>
  some ((v206 0), r191.2.2)]]) := (callV_eq vb _ _ _ rfl).trans (by kernel_rfl)

/-! loop.example/mailwire/spec.DrawSplitMail : kind 0, moves [0] -/
theorem spec_DrawSplitMail_eq (a0 : V) (H : VH) : cv id_spec_DrawSplitMail [a0] H =
  (cv id_spec_DrawSpeakMail [a0] H).bind fun r3 =>
  (aggNV 3 r3.1).bind fun c5 =>
  some ((.agg [(c5.getD 0 .nilp), (c5.getD 1 .nilp), (c5.getD 2 .nilp)]), r3.2) := (callV_eq vb _ _ _ rfl).trans (by kernel_rfl)

/-! loop.example/mailwire/spec.DrawSpeakMail : kind 0, moves [0] -/
theorem spec_DrawSpeakMail_eq (a0 : V) (H : VH) : cv id_spec_DrawSpeakMail [a0] H =
  (cv id_spec_l13Open [a0] H).bind fun r3 =>
  (cv id_spec_l10DrawMail [(strip (strip r3.1))] r3.2).bind fun r8 =>
  (cv id_spec_l10WrongMail [(strip r3.1), (strip r8.1)] r8.2).bind fun r10 =>
  (aggNV 3 r10.1).bind fun c12 =>
  some ((.agg [(c12.getD 0 .nilp), (c12.getD 1 .nilp), (c12.getD 2 .nilp)]), r10.2) := (callV_eq vb _ _ _ rfl).trans (by kernel_rfl)

/-! loop.example/mailwire/spec.l13Open : kind 0, moves [0] -/
theorem spec_l13Open_eq (a0 : V) (H : VH) : cv id_spec_l13Open [a0] H =
  (id (
  (vLenVV (strip a0)).bind fun x4_2 =>
  (vBinV (.int .i64) .gtr x4_2 (.int .i64 2000)).bind fun x5_3 =>
  ifVV x5_3 (
  (vSliceVV 1 (strip a0) none (some (.int .i64 2000))).bind fun x7_5 =>
  some (0, [x7_5], H)) (
  some (0, [a0], H)) : Option (Nat × List V × VH))).bind fun r7 =>
  inN r7.1 [
  gotV 1 r7.2.1 fun v8 =>
  (vOneV (v8 0)).bind fun y11 =>
  some ((.ptr r7.2.2.length 0), (r7.2.2 ++ [[y11, (.int .i64 0)]]))] := (callV_eq vb _ _ _ rfl).trans (by kernel_rfl)

/-! loop.example/mailwire/spec.l10DrawMail : kind 0, moves [] -/
noncomputable def spec_l10DrawMail_l3 : List V → VH → Option (Option Nat × List V × VH) := roundV (vb.ctx cv lpW') (vb.b.ann 39) (vb.takes 39) ⟨⟨[0, 4], [(2, (2, 0)), (3, (3, 0))], [(2, 3), (3, 3)]⟩, [(.exit 0, ⟨[0], [(2, (2, 0)), (3, (3, 0))], [(2, 3), (3, 3)]⟩)]⟩ (loopIn Tryd.f39 3)
noncomputable def spec_l10DrawMail_l7 : List V → VH → Option (Option Nat × List V × VH) := roundV (vb.ctx cv lpW') (vb.b.ann 39) (vb.takes 39) ⟨⟨[0, 5], [(2, (2, 0)), (3, (3, 0))], [(2, 3), (3, 3)]⟩, [(.exit 2, ⟨[], [(2, (2, 0)), (3, (3, 0))], [(2, 3), (3, 3)]⟩)]⟩ (loopIn Tryd.f39 7)
theorem spec_l10DrawMail_l3_eq (v0 v1 v2 v3 v4 v5 v6 v7 : V) (H : VH) : spec_l10DrawMail_l3 [v0, v1, v2, v3, v4, v5, v6, v7] H =
  (vBinV (.int .i64) .gtr v1 (.int .i64 0)).bind fun x18_21 =>
  ifVV x18_21 (
  (cv id_spec_l13Rd_of [(strip v0), (.sl false (stripLL [[(.str [98, 111, 98, 64, 121, 46, 111, 114, 103])], [(.str [99, 121, 64, 120, 46, 111, 114, 103])], [(.str [66, 111, 98, 64, 121, 46, 111, 114, 103])]]))] H).bind fun r27 =>
  (vOneV r27.1).bind fun y29 =>
  (ownV v6).bind fun s31 =>
  (appV false 1 16 s31 (.sl true [[y29]])).bind fun x27_30 =>
  (vOneV x27_30).bind fun y34 =>
  (vBinV (.int .i64) .sub (strip v1) (.int .i64 1)).bind fun x20_36 =>
  some (none, [(strip v0), x20_36, v2, v3, v4, v5, y34, v7], r27.2)) (
  some (some 0, [v0, v2, v3, v4, v5, v6, v7], H)) := by kernel_rfl
theorem spec_l10DrawMail_l7_eq (v0 v1 v2 v3 v4 v5 v6 v7 : V) (H : VH) : spec_l10DrawMail_l7 [v0, v1, v2, v3, v4, v5, v6, v7] H =
  (vBinV (.int .i64) .gtr v1 (.int .i64 0)).bind fun x33_46 =>
  ifVV x33_46 (
  (cv id_spec_l13Rd_of [(strip v0), (.sl false (stripLL [[(.str [83, 117, 98, 106, 101, 99, 116, 58, 32, 120])], [(.str [])], [(.str [116, 101, 120, 116])], [(.str [46])], [(.str [46, 97])], [(.str [82, 101, 99, 101, 105, 118, 101, 100, 58, 32, 98, 121, 32, 104])]]))] H).bind fun r52 =>
  (vOneV r52.1).bind fun y54 =>
  (ownV v7).bind fun s56 =>
  (appV false 1 16 s56 (.sl true [[y54]])).bind fun x42_55 =>
  (vOneV x42_55).bind fun y59 =>
  (vBinV (.int .i64) .sub (strip v1) (.int .i64 1)).bind fun x35_61 =>
  some (none, [(strip v0), x35_61, v2, v3, v4, v5, v6, y59], r52.2)) (
  some (some 0, [v2, v3, v4, v5, v6, v7], H)) := by kernel_rfl
theorem spec_l10DrawMail_eq (a0 : V) (H : VH) : cv id_spec_l10DrawMail [a0] H =
  (cv id_spec_l13Rd_of [(strip a0), (.sl false (stripLL [[(.str [97, 110, 110, 64, 120, 46, 111, 114, 103])], [(.str [])], [(.str [98, 46, 99, 64, 100, 46, 101])]]))] H).bind fun r4 =>
  (cv id_spec_l13Rd_of [(strip (strip a0)), (.sl false (stripLL [[(.str [98, 111, 98, 64, 121, 46, 111, 114, 103])], [(.str [97, 110, 110, 64, 120, 46, 111, 114, 103])]]))] r4.2).bind fun r8 =>
  (vOneV r8.1).bind fun y10 =>
  (vOneV r4.1).bind fun y13 =>
  (cv id_spec_l13Rd_pick [(strip (strip (strip a0))), (.int .i64 3)] r8.2).bind fun r18 =>
  (lpW' spec_l10DrawMail_l3 [(strip (strip (strip a0))), r18.1, (.str []), (.sl true []), (.sl true []), y13, (.sl true [[y10]]), (.sl true [])] r18.2).bind fun r38 =>
  inN r38.1 [
  gotV 7 r38.2.1 fun v39 =>
  (cv id_spec_l13Rd_num [(strip (v39 0)), (.sl false (stripLL [[(.int .i64 2)], [(.int .i64 3)], [(.int .i64 1)], [(.int .i64 0)]]))] r38.2.2).bind fun r43 =>
  (lpW' spec_l10DrawMail_l7 [(strip (v39 0)), r43.1, (v39 1), (v39 2), (v39 3), (v39 4), (v39 5), (v39 6)] r43.2).bind fun r63 =>
  inN r63.1 [
  gotV 6 r63.2.1 fun v64 =>
  some ((.agg [(v64 3), (v64 4), (v64 5)]), r63.2.2)]] := (callV_eq vb _ _ _ rfl).trans (by kernel_rfl)

/-! (*loop.example/mailwire/spec.l13Rd).of : kind 0, moves [] -/
theorem spec_l13Rd_of_eq (a0 a1 : V) (H : VH) : cv id_spec_l13Rd_of [a0, a1] H =
  (vLenVV (strip a1)).bind fun x8_4 =>
  (cv id_spec_l13Rd_pick [(strip a0), (strip x8_4)] H).bind fun r6 =>
  (vIdxV 1 (strip a1) r6.1).bind fun x10_7 =>
  (ldO globB false false 1 x10_7 r6.2).bind fun r9 =>
  some (r9.1, r9.2) := (callV_eq vb _ _ _ rfl).trans (by kernel_rfl)

/-! (*loop.example/mailwire/spec.l13Rd).pick : kind 0, moves [] -/
theorem spec_l13Rd_pick_eq (a0 a1 : V) (H : VH) : cv id_spec_l13Rd_pick [a0, a1] H =
  (vNilV (strip a0)).bind fun x9_3 =>
  (vOffV x9_3 1).bind fun x10_4 =>
  (ldO globB false false 1 x10_4 H).bind fun r6 =>
  (vBinV (.int .i64) .add r6.1 (.int .i64 1)).bind fun x12_7 =>
  (vNilV a0).bind fun x13_8 =>
  (vOffV x13_8 1).bind fun x14_9 =>
  (vOneV x12_7).bind fun y11 =>
  (stO x14_9 [y11] r6.2).bind fun H12 =>
  (id (
  (vBinV (.int .i64) .lss a1 (.int .i64 1)).bind fun x16_14 =>
  ifGV x16_14 (
  some (0, [(.int .i64 0)], H12)) (
  (vNilV (strip (strip a0))).bind fun x19_19 =>
  (vOffV x19_19 0).bind fun x20_20 =>
  (ldO globB false false 1 x20_20 H12).bind fun r22 =>
  (vLenVV r22.1).bind fun x22_23 =>
  (vBinV (.int .i64) .eql x22_23 (.int .i64 0)).bind fun x23_24 =>
  ifVV x23_24 (
  some (0, [(.int .i64 0)], r22.2)) (
  some (1, [(strip (strip (strip a0))), (strip a1)], r22.2))) : Option (Nat × List V × VH))).bind fun r27 =>
  inN r27.1 [
  gotV 1 r27.2.1 fun v28 =>
  some ((v28 0), r27.2.2),
  gotV 2 r27.2.1 fun v29 =>
  (vNilV (v29 0)).bind fun x26_31 =>
  (vOffV x26_31 1).bind fun x27_32 =>
  (ldO globB false false 1 x27_32 r27.2.2).bind fun r34 =>
  (vBinV (.int .i64) .sub r34.1 (.int .i64 1)).bind fun x29_35 =>
  (vNilV (strip (v29 0))).bind fun x32_39 =>
  (vOffV x32_39 0).bind fun x33_40 =>
  (ldO globB false false 1 x33_40 r34.2).bind fun r42 =>
  (vLenVV r42.1).bind fun x35_43 =>
  (vBinV (.int .i64) .lss x29_35 x35_43).bind fun x36_44 =>
  ifVV x36_44 (
  (vNilV (strip (strip (v29 0)))).bind fun x38_46 =>
  (vOffV x38_46 0).bind fun x39_47 =>
  (ldO globB false false 1 x39_47 r42.2).bind fun r49 =>
  (vIdxV 1 r49.1 (strip x29_35)).bind fun x42_51 =>
  (ldO globB false false 1 x42_51 r49.2).bind fun r53 =>
  (vConvV .i64 r53.1).bind fun x44_54 =>
  (vBinV (.int .i64) .rem x44_54 (v29 1)).bind fun x46_56 =>
  some (x46_56, r53.2)) (
  (vNilV (strip (strip (v29 0)))).bind fun x48_59 =>
  (vOffV x48_59 0).bind fun x49_60 =>
  (ldO globB false false 1 x49_60 r42.2).bind fun r62 =>
  (vNilV (strip (strip (strip (v29 0))))).bind fun x53_65 =>
  (vOffV x53_65 0).bind fun x54_66 =>
  (ldO globB false false 1 x54_66 r62.2).bind fun r68 =>
  (vLenVV r68.1).bind fun x56_69 =>
  (vBinV (.int .i64) .rem (strip x29_35) x56_69).bind fun x57_70 =>
  (vIdxV 1 r62.1 x57_70).bind fun x58_71 =>
  (ldO globB false false 1 x58_71 r68.2).bind fun r73 =>
  (vConvV .i64 r73.1).bind fun x60_74 =>
  (vBinV (.int .i64) .mul x60_74 (.int .i64 131)).bind fun x61_75 =>
  (vNilV (strip (strip (strip (strip (v29 0)))))).bind fun x63_77 =>
  (vOffV x63_77 0).bind fun x64_78 =>
  (ldO globB false false 1 x64_78 r73.2).bind fun r80 =>
  (vBinV (.int .i64) .mul (strip (strip x29_35)) (.int .i64 7)).bind fun x67_82 =>
  (vBinV (.int .i64) .add x67_82 (.int .i64 3)).bind fun x68_83 =>
  (vNilV (strip (strip (strip (strip (strip (v29 0))))))).bind fun x70_85 =>
  (vOffV x70_85 0).bind fun x71_86 =>
  (ldO globB false false 1 x71_86 r80.2).bind fun r88 =>
  (vLenVV r88.1).bind fun x73_89 =>
  (vBinV (.int .i64) .rem x68_83 x73_89).bind fun x74_90 =>
  (vIdxV 1 r80.1 x74_90).bind fun x75_91 =>
  (ldO globB false false 1 x75_91 r88.2).bind fun r93 =>
  (vConvV .i64 r93.1).bind fun x77_94 =>
  (vBinV (.int .i64) .mul x77_94 (.int .i64 1117)).bind fun x78_95 =>
  (vBinV (.int .i64) .add x61_75 x78_95).bind fun x79_96 =>
  (vBinV (.int .i64) .mul (strip (strip (strip x29_35))) (.int .i64 29)).bind fun x81_98 =>
  (vBinV (.int .i64) .add x79_96 x81_98).bind fun x82_99 =>
  (vNilV (strip (strip (strip (strip (strip (strip (v29 0)))))))).bind fun x85_102 =>
  (vOffV x85_102 0).bind fun x86_103 =>
  (ldO globB false false 1 x86_103 r93.2).bind fun r105 =>
  (vLenVV r105.1).bind fun x88_106 =>
  (vBinV (.int .i64) .quo (strip (strip (strip (strip x29_35)))) x88_106).bind fun x89_107 =>
  (vBinV (.int .i64) .mul x89_107 (.int .i64 53)).bind fun x90_108 =>
  (vBinV (.int .i64) .add x82_99 x90_108).bind fun x91_109 =>
  (vBinV (.int .i64) .quo (strip x91_109) (.int .i64 64)).bind fun x94_113 =>
  (vBinV (.int .i64) .xor x91_109 x94_113).bind fun x95_114 =>
  (vBinV (.int .i64) .rem x95_114 (v29 1)).bind fun x98_118 =>
  some (x98_118, r105.2))] := (callV_eq vb _ _ _ rfl).trans (by kernel_rfl)

/-! (*loop.example/mailwire/spec.l13Rd).num : kind 0, moves [] -/
theorem spec_l13Rd_num_eq (a0 a1 : V) (H : VH) : cv id_spec_l13Rd_num [a0, a1] H =
  (vLenVV (strip a1)).bind fun x8_4 =>
  (cv id_spec_l13Rd_pick [(strip a0), (strip x8_4)] H).bind fun r6 =>
  (vIdxV 1 (strip a1) r6.1).bind fun x10_7 =>
  (ldO globB false false 1 x10_7 r6.2).bind fun r9 =>
  some (r9.1, r9.2) := (callV_eq vb _ _ _ rfl).trans (by kernel_rfl)

/-! loop.example/mailwire/spec.l10WrongMail : kind 0, moves [] -/
theorem spec_l10WrongMail_eq (a0 a1 : V) (H : VH) : cv id_spec_l10WrongMail [a0, a1] H =
  (aggNV 3 a1).bind fun c1 =>
  (pc id_spec_l10Mail [(frz H (.agg [(strip (c1.getD 0 .nilp)), (strip (c1.getD 1 .nilp)), (strip (c1.getD 2 .nilp))]))]).bind fun x7_4 =>
  (aggNV 3 x7_4).bind fun c7 =>
  (cv id_spec_l13Rd_pick [(strip a0), (.int .i64 20)] H).bind fun r10 =>
  (vBinV (.int .i64) .eql r10.1 (.int .i64 0)).bind fun x11_11 =>
  ifVV x11_11 (
  (cv id_spec_l13Rd_of [(strip (strip a0)), (.sl false (stripLL [[(.str [120])], [(.str [97, 64, 66])], [(.str [60, 62])]]))] r10.2).bind fun r16 =>
  (vOneV r16.1).bind fun y19 =>
  some ((.agg [y19, (c7.getD 1 .nilp), (c7.getD 2 .nilp)]), r16.2)) (
  (vBinV (.int .i64) .eql r10.1 (.int .i64 1)).bind fun x17_22 =>
  ifVV x17_22 (
  some ((.agg [(c7.getD 0 .nilp), (.sl true []), (c7.getD 2 .nilp)]), r10.2)) (
  (vBinV (.int .i64) .eql r10.1 (.int .i64 2)).bind fun x21_29 =>
  ifVV x21_29 (
  (ownV (c7.getD 2 .nilp)).bind fun s35 =>
  (appV false 1 16 s35 (.sl true [[(.str [10])]])).bind fun x25_34 =>
  (vOneV x25_34).bind fun y38 =>
  some ((.agg [(c7.getD 0 .nilp), (c7.getD 1 .nilp), y38]), r10.2)) (
  some ((.agg [(c7.getD 0 .nilp), (c7.getD 1 .nilp), (c7.getD 2 .nilp)]), r10.2)))) := (callV_eq vb _ _ _ rfl).trans (by kernel_rfl)

/-! loop.example/mailwire/spec.l10Mail : kind 2, moves [] -/
theorem spec_l10Mail_eq (a0 : V) (H : VH) : cv id_spec_l10Mail [a0] H =
  (aggNV 3 a0).bind fun c1 =>
  (appV false 1 16 [] (c1.getD 1 .nilp)).bind fun x8_8 =>
  (appV false 1 16 [] (c1.getD 2 .nilp)).bind fun x12_12 =>
  (vOneV (strip (c1.getD 0 .nilp))).bind fun y14 =>
  (vOneV x8_8).bind fun y15 =>
  (vOneV x12_12).bind fun y16 =>
  some ((.agg [y14, y15, y16]), H) := (callV_eq vb _ _ _ rfl).trans (by kernel_rfl)

/-! loop.example/mailwire/impl.SplitMail : kind 2, moves [0] -/
noncomputable def impl_SplitMail_l5 : List V → VH → Option (Option Nat × List V × VH) := roundV (vb.ctx cv lpW') (vb.b.ann 20) (vb.takes 20) ⟨⟨[4, 14, 15, 16], [(1, (1, 0))], [(1, 3)]⟩, [(.exit 0, ⟨[4], [], []⟩)]⟩ (loopIn Tryd.f20 5)
theorem impl_SplitMail_l5_eq (v0 v1 v2 v3 v4 v5 v6 : V) (H : VH) : impl_SplitMail_l5 [v0, v1, v2, v3, v4, v5, v6] H =
  (vBinV (.int .i64) .lss v3 v2).bind fun x17_18 =>
  ifVV x17_18 (
  (vIdxV 1 v1 v3).bind fun x18_19 =>
  (ldO globB false false 1 x18_19 H).bind fun r21 =>
  (vOneV r21.1).bind fun y24 =>
  (stO (.ptr r21.2.length 0) [y24] (r21.2 ++ [[(.str [])]])).bind fun H25 =>
  (qco id_slices_IndexFunc___impl_Mail_impl_Mail_ H25 [(strip v0), (.fn id_impl_SplitMail_1 [(.ptr r21.2.length 0)])]).bind fun x22_28 =>
  (vBinV (.int .i64) .lss x22_28 (.int .i64 0)).bind fun x24_31 =>
  ifVV x24_31 (
  (ldO globB false false 1 (.ptr r21.2.length 0) H25).bind fun r36 =>
  (vOneV r36.1).bind fun y38 =>
  (pco id_slices_Clone___string_string_ r36.2 [(strip v6)]).bind fun x32_41 =>
  (vOneV (strip v4)).bind fun y43 =>
  (vOneV x32_41).bind fun y44 =>
  (appO true false 3 64 v0 (.sl true [[y43, (.sl true [[y38]]), y44]]) r36.2).bind fun r47 =>
  (vBinV (.int .i64) .add v3 (.int .i64 1)).bind fun x48_49 =>
  some (none, [r47.1, v1, v2, x48_49, v4, v5, v6], r47.2)) (
  (vIdxV 3 (strip v0) (strip (strip x22_28))).bind fun x40_55 =>
  (vOffV x40_55 1).bind fun x41_56 =>
  (ldO globB true false 1 x41_56 H25).bind fun r58 =>
  (ldO globB false false 1 (.ptr r21.2.length 0) r58.2).bind fun r60 =>
  (vOneV r60.1).bind fun y62 =>
  (appO true false 1 16 r58.1 (.sl true [[y62]]) r60.2).bind fun r64 =>
  (vIdxV 3 (strip v0) (strip x22_28)).bind fun x46_65 =>
  (vOffV x46_65 1).bind fun x47_66 =>
  (vOneV r64.1).bind fun y68 =>
  (stO x47_66 [y68] r64.2).bind fun H69 =>
  (vBinV (.int .i64) .add v3 (.int .i64 1)).bind fun x48_70 =>
  some (none, [v0, v1, v2, x48_70, v4, v5, v6], H69))) (
  some (some 0, [v0], H)) := by kernel_rfl
theorem impl_SplitMail_eq (a0 : V) (H : VH) : cv id_impl_SplitMail [a0] H =
  (aggNV 3 a0).bind fun c1 =>
  (qco id_impl_MailValid H [(.agg [(strip (c1.getD 0 .nilp)), (strip (c1.getD 1 .nilp)), (strip (c1.getD 2 .nilp))])]).bind fun x9_5 =>
  (vUnV .not x9_5).bind fun x10_6 =>
  ifVV x10_6 (
  some ((.tup [(.sl true []), (.bool false)]), H)) (
  (cv id_impl_normalMail [(.agg [(c1.getD 0 .nilp), (c1.getD 1 .nilp), (c1.getD 2 .nilp)])] H).bind fun r13 =>
  (aggNV 3 r13.1).bind fun c15 =>
  (c15[1]?).bind fun x14_14 =>
  (vLenVV (strip x14_14)).bind fun x15_16 =>
  (lpW' impl_SplitMail_l5 [(.sl true []), (strip x14_14), x15_16, (.int .i64 0), (strip (c1.getD 0 .nilp)), (strip (c1.getD 1 .nilp)), (strip (c1.getD 2 .nilp))] r13.2).bind fun r72 =>
  inN r72.1 [
  gotV 1 r72.2.1 fun v73 =>
  some ((.tup [(v73 0), (.bool true)]), r72.2.2)]) := (callV_eq vb _ _ _ rfl).trans (by kernel_rfl)

/-! loop.example/mailwire/impl.MailValid : kind 1, moves [] -/
theorem impl_MailValid_eq (a0 : V) (H : VH) : cv id_impl_MailValid [a0] H =
  (aggNV 3 a0).bind fun c1 =>
  (qc id_impl_draftValid [(frz H (.agg [(strip (c1.getD 0 .nilp)), (strip (c1.getD 1 .nilp)), (strip (c1.getD 2 .nilp))])), (frz H (.int .i64 1)), (frz H (.int .i64 30))]).bind fun x4_4 =>
  some (x4_4, H) := (callV_eq vb _ _ _ rfl).trans (by kernel_rfl)

/-! loop.example/mailwire/impl.draftValid : kind 1, moves [] -/
theorem impl_draftValid_eq (a0 a1 a2 : V) (H : VH) : cv id_impl_draftValid [a0, a1, a2] H =
  (aggNV 3 a0).bind fun c1 =>
  (qc id_impl_isFrom [(frz H (strip (c1.getD 0 .nilp)))]).bind fun x9_5 =>
  ifGV x9_5 (
  (vLenVV (strip (c1.getD 1 .nilp))).bind fun x13_9 =>
  (vBinV (.int .i64) .geq x13_9 a1).bind fun x15_11 =>
  ifGV x15_11 (
  (vLenVV (strip (c1.getD 1 .nilp))).bind fun x20_16 =>
  (vBinV (.int .i64) .leq x20_16 (.int .i64 10)).bind fun x21_17 =>
  ifGV x21_17 (
  (qc id_slices_ContainsFunc___string_string_ [(frz H (strip (c1.getD 1 .nilp))), (frz H (.fn id_impl_draftValid_1 []))]).bind fun x26_22 =>
  (vUnV .not x26_22).bind fun x27_23 =>
  ifGV x27_23 (
  (qc id_impl_areTexts [(frz H (strip (c1.getD 2 .nilp))), (frz H a2)]).bind fun x33_29 =>
  some (x33_29, H)) (
  some ((.bool false), H))) (
  some ((.bool false), H))) (
  some ((.bool false), H))) (
  some ((.bool false), H)) := (callV_eq vb _ _ _ rfl).trans (by kernel_rfl)

/-! loop.example/mailwire/impl.isFrom : kind 1, moves [] -/
theorem impl_isFrom_eq (a0 : V) (H : VH) : cv id_impl_isFrom [a0] H =
  (vBinV .str .eql a0 (.str [])).bind fun x4_2 =>
  ifGV x4_2 (
  some ((.bool true), H)) (
  (qc id_impl_isPath [(frz H (strip a0))]).bind fun x7_7 =>
  some (x7_7, H)) := (callV_eq vb _ _ _ rfl).trans (by kernel_rfl)

/-! loop.example/mailwire/impl.isPath : kind 1, moves [] -/
theorem impl_isPath_eq (a0 : V) (H : VH) : cv id_impl_isPath [a0] H =
  (qc id_strings_Cut [(frz H a0), (frz H (.str [64]))]).bind fun x8_2 =>
  (vExtV x8_2 0).bind fun x9_4 =>
  (vExtV x8_2 1).bind fun x10_5 =>
  (vExtV x8_2 2).bind fun x11_6 =>
  ifGV (strip x11_6) (
  (qc id_impl_isLocal [(frz H (strip x9_4))]).bind fun x15_13 =>
  ifGV x15_13 (
  (qc id_impl_isDomain [(frz H (strip x10_5))]).bind fun x19_17 =>
  some (x19_17, H)) (
  some ((.bool false), H))) (
  some ((.bool false), H)) := (callV_eq vb _ _ _ rfl).trans (by kernel_rfl)

/-! strings.Cut : kind 1, moves [] -/
theorem strings_Cut_eq (a0 a1 : V) (H : VH) : cv id_strings_Cut [a0, a1] H =
  (qc id_internal_stringslite_Cut [(frz H a0), (frz H a1)]).bind fun x9_5 =>
  (vExtV x9_5 0).bind fun x10_6 =>
  (vExtV x9_5 1).bind fun x11_7 =>
  (vExtV x9_5 2).bind fun x12_8 =>
  some ((.tup [(strip x10_6), (strip x11_7), (strip x12_8)]), H) := (callV_eq vb _ _ _ rfl).trans (by kernel_rfl)

/-! internal/stringslite.Cut : kind 1, moves [] -/
theorem internal_stringslite_Cut_eq (a0 a1 : V) (H : VH) : cv id_internal_stringslite_Cut [a0, a1] H =
  (qc id_internal_stringslite_Index [(frz H a0), (frz H a1)]).bind fun x10_5 =>
  (vBinV (.int .i64) .geq x10_5 (.int .i64 0)).bind fun x12_8 =>
  ifVV x12_8 (
  (vSliceSV (strip a0) none (some (strip x10_5))).bind fun x15_11 =>
  (vLenSV (strip a1)).bind fun x19_15 =>
  (vBinV (.int .i64) .add (strip (strip x10_5)) x19_15).bind fun x20_16 =>
  (vSliceSV (strip (strip a0)) (some x20_16) none).bind fun x21_17 =>
  some ((.tup [x15_11, x21_17, (.bool true)]), H)) (
  some ((.tup [(strip a0), (.str []), (.bool false)]), H)) := (callV_eq vb _ _ _ rfl).trans (by kernel_rfl)

/-! internal/stringslite.Index : kind 1, moves [] -/
noncomputable def internal_stringslite_Index_l15 : List V → VH → Option (Option Nat × List V × VH) := roundV (vb.ctx cv lpW') (vb.b.ann 99) (vb.takes 99) ⟨⟨[0, 1, 5, 6, 7, 8, 9, 10], [], []⟩, [(.exit 1, ⟨[], [], []⟩), (.ret, ⟨[4], [], []⟩)]⟩ (loopIn Tryd.f99 15)
theorem internal_stringslite_Index_l15_eq (v0 v1 v2 v3 v4 v5 v6 v7 : V) (H : VH) : internal_stringslite_Index_l15 [v0, v1, v2, v3, v4, v5, v6, v7] H =
  (vBinV (.int .i64) .lss v5 v6).bind fun x59_65 =>
  ifVV x59_65 (
  (id (
  (vIndexSV v0 (strip v5)).bind fun x62_68 =>
  (vBinV (.int .u8) .neq x62_68 v3).bind fun x64_70 =>
  ifVV x64_70 (
  (vBinV (.int .i64) .add (strip (strip v5)) (.int .i64 1)).bind fun x67_73 =>
  (vSliceSV (strip v0) (some x67_73) (some (strip v6))).bind fun x69_75 =>
  (qc id_internal_stringslite_IndexByte [(frz H x69_75), (frz H (strip v3))]).bind fun x71_77 =>
  (vBinV (.int .i64) .lss x71_77 (.int .i64 0)).bind fun x73_80 =>
  ifVV x73_80 (
  some (0, [(.int .i64 (-1))], H)) (
  (vBinV (.int .i64) .add (strip x71_77) (.int .i64 1)).bind fun x76_84 =>
  (vBinV (.int .i64) .add (strip (strip (strip v5))) x76_84).bind fun x77_85 =>
  some (1, [(strip (strip v0)), v1, v2, (strip (strip v3)), v4, x77_85, (strip (strip v6)), v7], H))) (
  some (1, [(strip v0), v1, v2, (strip v3), v4, (strip (strip v5)), (strip v6), v7], H)) : Option (Nat × List V × VH))).bind fun r87 =>
  inN r87.1 [
  gotV 1 r87.2.1 fun v88 =>
  some (some 1, [(v88 0)], r87.2.2),
  gotV 8 r87.2.1 fun v89 =>
  (id (
  (vBinV (.int .i64) .add (v89 5) (.int .i64 1)).bind fun x80_92 =>
  (vIndexSV (v89 0) x80_92).bind fun x81_93 =>
  (vBinV (.int .u8) .eql x81_93 (v89 4)).bind fun x83_95 =>
  ifGV x83_95 (
  (vBinV (.int .i64) .add (strip (strip (v89 5))) (v89 2)).bind fun x89_101 =>
  (vSliceSV (strip (v89 0)) (some (strip (v89 5))) (some x89_101)).bind fun x90_102 =>
  (vBinV .str .eql x90_102 (v89 1)).bind fun x92_104 =>
  ifVV x92_104 (
  some (0, [(strip (strip (strip (v89 5))))], r87.2.2)) (
  some (1, [(strip (strip (v89 0))), (strip (v89 1)), (strip (v89 2)), (v89 3), (strip (v89 4)), (strip (strip (strip (v89 5)))), (v89 6), (v89 7)], r87.2.2))) (
  some (1, [(strip (v89 0)), (v89 1), (v89 2), (v89 3), (strip (v89 4)), (strip (v89 5)), (v89 6), (v89 7)], r87.2.2)) : Option (Nat × List V × VH))).bind fun r109 =>
  inN r109.1 [
  gotV 1 r109.2.1 fun v110 =>
  some (some 1, [(v110 0)], r109.2.2),
  gotV 8 r109.2.1 fun v111 =>
  (vBinV (.int .i64) .add (v111 5) (.int .i64 1)).bind fun x96_113 =>
  (vBinV (.int .i64) .add (v111 7) (.int .i64 1)).bind fun x98_116 =>
  (ldO globB false false 1 (.gp 0 0) r109.2.2).bind fun r120 =>
  (vBinV (.int .i64) .leq (v111 2) r120.1).bind fun x101_121 =>
  ifGV x101_121 (
  (qc id_internal_bytealg_Cutover [(frz r120.2 x96_113)]).bind fun x105_125 =>
  (vBinV (.int .i64) .gtr x98_116 x105_125).bind fun x106_126 =>
  ifVV x106_126 (
  (vSliceSV (v111 0) (some (strip x96_113)) none).bind fun x110_130 =>
  (extB 2 [x110_130, (v111 1)] fun x112_132 =>
    (vBinV (.int .i64) .geq x112_132 (.int .i64 0)).bind fun x114_135 =>
  ifVV x114_135 (
  (vBinV (.int .i64) .add (strip x112_132) (strip (strip x96_113))).bind fun x117_138 =>
  some (some 1, [x117_138], r120.2)) (
  some (some 1, [(.int .i64 (-1))], r120.2)))) (
  (ldO globB false false 1 (.gp 0 0) r120.2).bind fun r143 =>
  (vBinV (.int .i64) .gtr (strip (v111 2)) r143.1).bind fun x120_144 =>
  ifGV x120_144 (
  (vBinV (.int .i64) .shr (strip x96_113) (.int .u64 4)).bind fun x124_148 =>
  (vBinV (.int .i64) .add (.int .i64 4) x124_148).bind fun x125_149 =>
  (vBinV (.int .i64) .geq (strip x98_116) x125_149).bind fun x126_150 =>
  ifGV x126_150 (
  (vBinV (.int .i64) .lss (strip (strip x96_113)) (v111 6)).bind fun x131_155 =>
  ifVV x131_155 (
  (vSliceSV (v111 0) (some (strip (strip (strip x96_113)))) none).bind fun x135_159 =>
  (qc id_internal_bytealg_IndexRabinKarp_string_ [(frz r143.2 x135_159), (frz r143.2 (v111 1))]).bind fun x137_161 =>
  (vBinV (.int .i64) .lss x137_161 (.int .i64 0)).bind fun x139_164 =>
  ifVV x139_164 (
  some (some 1, [(.int .i64 (-1))], r143.2)) (
  (vBinV (.int .i64) .add (strip (strip (strip (strip x96_113)))) (strip x137_161)).bind fun x142_168 =>
  some (some 1, [x142_168], r143.2))) (
  some (none, [(v111 0), (v111 1), (strip (strip (v111 2))), (v111 3), (v111 4), (strip (strip (strip x96_113))), (strip (v111 6)), (strip (strip x98_116))], r143.2))) (
  some (none, [(v111 0), (v111 1), (strip (strip (v111 2))), (v111 3), (v111 4), (strip (strip x96_113)), (v111 6), (strip (strip x98_116))], r143.2))) (
  some (none, [(v111 0), (v111 1), (strip (strip (v111 2))), (v111 3), (v111 4), (strip x96_113), (v111 6), (strip x98_116)], r143.2)))) (
  (ldO globB false false 1 (.gp 0 0) r120.2).bind fun r177 =>
  (vBinV (.int .i64) .gtr (strip (v111 2)) r177.1).bind fun x120_178 =>
  ifGV x120_178 (
  (vBinV (.int .i64) .shr x96_113 (.int .u64 4)).bind fun x124_182 =>
  (vBinV (.int .i64) .add (.int .i64 4) x124_182).bind fun x125_183 =>
  (vBinV (.int .i64) .geq x98_116 x125_183).bind fun x126_184 =>
  ifGV x126_184 (
  (vBinV (.int .i64) .lss (strip x96_113) (v111 6)).bind fun x131_189 =>
  ifVV x131_189 (
  (vSliceSV (v111 0) (some (strip (strip x96_113))) none).bind fun x135_193 =>
  (qc id_internal_bytealg_IndexRabinKarp_string_ [(frz r177.2 x135_193), (frz r177.2 (v111 1))]).bind fun x137_195 =>
  (vBinV (.int .i64) .lss x137_195 (.int .i64 0)).bind fun x139_198 =>
  ifVV x139_198 (
  some (some 1, [(.int .i64 (-1))], r177.2)) (
  (vBinV (.int .i64) .add (strip (strip (strip x96_113))) (strip x137_195)).bind fun x142_202 =>
  some (some 1, [x142_202], r177.2))) (
  some (none, [(v111 0), (v111 1), (strip (strip (v111 2))), (v111 3), (v111 4), (strip (strip x96_113)), (strip (v111 6)), (strip x98_116)], r177.2))) (
  some (none, [(v111 0), (v111 1), (strip (strip (v111 2))), (v111 3), (v111 4), (strip x96_113), (v111 6), (strip x98_116)], r177.2))) (
  some (none, [(v111 0), (v111 1), (strip (strip (v111 2))), (v111 3), (v111 4), x96_113, (v111 6), x98_116], r177.2)))]]) (
  some (some 0, [], H)) := by kernel_rfl
theorem internal_stringslite_Index_eq (a0 a1 : V) (H : VH) : cv id_internal_stringslite_Index [a0, a1] H =
  (vLenSV a1).bind fun x15_2 =>
  (id (
  (vBinV (.int .i64) .eql x15_2 (.int .i64 0)).bind fun x18_5 =>
  ifGV x18_5 (
  some (0, [(.int .i64 0)], H)) (
  (vBinV .str .eql (strip a1) a0).bind fun x22_12 =>
  ifVV x22_12 (
  some (0, [(.int .i64 0)], H)) (
  (vBinV (.int .i64) .eql (strip x15_2) (.int .i64 1)).bind fun x26_17 =>
  ifVV x26_17 (
  (vIndexSV (strip (strip a1)) (.int .i64 0)).bind fun x29_21 =>
  (qc id_internal_stringslite_IndexByte [(frz H (strip a0)), (frz H x29_21)]).bind fun x30_22 =>
  some (0, [x30_22], H)) (
  (vLenSV (strip a0)).bind fun x34_26 =>
  (vBinV (.int .i64) .geq (strip (strip x15_2)) x34_26).bind fun x35_27 =>
  ifVV x35_27 (
  some (0, [(.int .i64 (-1))], H)) (
  (ldO globB false false 1 (.gp 0 0) H).bind fun r32 =>
  (vBinV (.int .i64) .leq (strip (strip (strip x15_2))) r32.1).bind fun x39_33 =>
  ifGV x39_33 (
  (vLenSV (strip (strip a0))).bind fun x42_36 =>
  (vBinV (.int .i64) .leq x42_36 (.int .i64 64)).bind fun x43_37 =>
  ifVV x43_37 (
  (extB 2 [(strip (strip (strip a0))), (strip (strip a1))] fun x47_42 =>
    some (0, [x47_42], r32.2))) (
  some (1, [(strip (strip (strip a0))), (strip (strip a1)), (strip (strip (strip (strip x15_2))))], r32.2))) (
  some (1, [(strip (strip a0)), (strip (strip a1)), (strip (strip (strip (strip x15_2))))], r32.2)))))) : Option (Nat × List V × VH))).bind fun r46 =>
  inN r46.1 [
  gotV 1 r46.2.1 fun v47 =>
  some ((v47 0), r46.2.2),
  gotV 3 r46.2.1 fun v48 =>
  (vIndexSV (v48 1) (.int .i64 0)).bind fun x49_50 =>
  (vIndexSV (strip (v48 1)) (.int .i64 1)).bind fun x51_53 =>
  (vLenSV (v48 0)).bind fun x53_57 =>
  (vBinV (.int .i64) .sub x53_57 (v48 2)).bind fun x55_59 =>
  (vBinV (.int .i64) .add x55_59 (.int .i64 1)).bind fun x56_60 =>
  (lpW' internal_stringslite_Index_l15 [(strip (v48 0)), (strip (strip (v48 1))), (strip (v48 2)), x49_50, x51_53, (.int .i64 0), x56_60, (.int .i64 0)] r46.2.2).bind fun r208 =>
  inN r208.1 [
  gotV 0 r208.2.1 fun v209 =>
  some ((.int .i64 (-1)), r208.2.2),
  gotV 1 r208.2.1 fun v211 =>
  some ((v211 0), r208.2.2)]] := (callV_eq vb _ _ _ rfl).trans (by kernel_rfl)

/-! internal/stringslite.IndexByte : kind 1, moves [] -/
theorem internal_stringslite_IndexByte_eq (a0 a1 : V) (H : VH) : cv id_internal_stringslite_IndexByte [a0, a1] H =
  (extB 0 [a0, a1] fun x7_3 =>
    some (x7_3, H)) := (callV_eq vb _ _ _ rfl).trans (by kernel_rfl)

/-! internal/bytealg.Cutover : kind 1, moves [] -/
theorem internal_bytealg_Cutover_eq (a0 : V) (H : VH) : cv id_internal_bytealg_Cutover [a0] H =
  (vBinV (.int .i64) .add a0 (.int .i64 16)).bind fun x4_2 =>
  (vBinV (.int .i64) .quo x4_2 (.int .i64 8)).bind fun x5_3 =>
  some (x5_3, H) := (callV_eq vb _ _ _ rfl).trans (by kernel_rfl)

/-! internal/bytealg.IndexRabinKarp[string] : kind 1, moves [] -/
noncomputable def internal_bytealg_IndexRabinKarp_string__l5 : List V → VH → Option (Option Nat × List V × VH) := roundV (vb.ctx cv lpW') (vb.b.ann 112) (vb.takes 112) ⟨⟨[0, 1, 5, 6, 7, 8, 9], [], []⟩, [(.exit 0, ⟨[0, 1, 5, 6, 7, 8], [], []⟩)]⟩ (loopIn Tryd.f112 5)
noncomputable def internal_bytealg_IndexRabinKarp_string__l11 : List V → VH → Option (Option Nat × List V × VH) := roundV (vb.ctx cv lpW') (vb.b.ann 112) (vb.takes 112) ⟨⟨[0, 1, 5, 6, 7, 8, 10], [], []⟩, [(.exit 2, ⟨[], [], []⟩), (.ret, ⟨[4], [], []⟩)]⟩ (loopIn Tryd.f112 11)
theorem internal_bytealg_IndexRabinKarp_string__l5_eq (v0 v1 v2 v3 v4 v5 v6 : V) (H : VH) : internal_bytealg_IndexRabinKarp_string__l5 [v0, v1, v2, v3, v4, v5, v6] H =
  (vBinV (.int .i64) .lss v6 v4).bind fun x20_15 =>
  ifVV x20_15 (
  (vBinV (.int .u32) .mul v5 (.int .u32 16777619)).bind fun x24_17 =>
  (vIndexSV v0 (strip v6)).bind fun x27_20 =>
  (vConvV .u32 x27_20).bind fun x28_21 =>
  (vBinV (.int .u32) .add x24_17 x28_21).bind fun x29_22 =>
  (vBinV (.int .i64) .add (strip (strip v6)) (.int .i64 1)).bind fun x22_25 =>
  some (none, [(strip v0), v1, v2, v3, (strip v4), x29_22, x22_25], H)) (
  some (some 0, [v0, v1, v2, v3, (strip v4), v5], H)) := by kernel_rfl
theorem internal_bytealg_IndexRabinKarp_string__l11_eq (v0 v1 v2 v3 v4 v5 v6 : V) (H : VH) : internal_bytealg_IndexRabinKarp_string__l11 [v0, v1, v2, v3, v4, v5, v6] H =
  (vLenSV v0).bind fun x43_48 =>
  (vBinV (.int .i64) .lss v6 x43_48).bind fun x44_49 =>
  ifVV x44_49 (
  (vBinV (.int .u32) .mul v5 (.int .u32 16777619)).bind fun x46_51 =>
  (vIndexSV (strip v0) (strip v6)).bind fun x50_56 =>
  (vConvV .u32 x50_56).bind fun x51_57 =>
  (vBinV (.int .u32) .add x46_51 x51_57).bind fun x52_58 =>
  (vBinV (.int .i64) .sub (strip (strip v6)) v4).bind fun x58_65 =>
  (vIndexSV (strip (strip v0)) x58_65).bind fun x59_66 =>
  (vConvV .u32 x59_66).bind fun x60_67 =>
  (vBinV (.int .u32) .mul v3 x60_67).bind fun x61_68 =>
  (vBinV (.int .u32) .sub x52_58 x61_68).bind fun x62_69 =>
  (vBinV (.int .i64) .add (strip (strip (strip v6))) (.int .i64 1)).bind fun x64_72 =>
  (vBinV (.int .u32) .eql x62_69 v2).bind fun x67_76 =>
  ifGV x67_76 (
  (vBinV (.int .i64) .sub x64_72 (strip v4)).bind fun x72_81 =>
  (vSliceSV (strip (strip (strip v0))) (some x72_81) (some (strip x64_72))).bind fun x74_83 =>
  (vBinV .str .eql x74_83 v1).bind fun x76_85 =>
  ifVV x76_85 (
  (vBinV (.int .i64) .sub (strip (strip x64_72)) (strip (strip v4))).bind fun x80_89 =>
  some (some 1, [x80_89], H)) (
  some (none, [(strip (strip (strip (strip v0)))), (strip v1), (strip v2), (strip v3), (strip (strip v4)), (strip x62_69), (strip (strip x64_72))], H))) (
  some (none, [(strip (strip (strip v0))), v1, (strip v2), (strip v3), (strip v4), (strip x62_69), x64_72], H))) (
  some (some 0, [], H)) := by kernel_rfl
theorem internal_bytealg_IndexRabinKarp_string__eq (a0 a1 : V) (H : VH) : cv id_internal_bytealg_IndexRabinKarp_string_ [a0, a1] H =
  (qc id_internal_bytealg_hashStr_string_ [(frz H a1)]).bind fun x13_2 =>
  (vExtV x13_2 0).bind fun x14_4 =>
  (vExtV x13_2 1).bind fun x15_5 =>
  (vLenSV (strip a1)).bind fun x17_9 =>
  (lpW' internal_bytealg_IndexRabinKarp_string__l5 [a0, (strip (strip a1)), (strip x14_4), (strip x15_5), x17_9, (.int .u32 0), (.int .i64 0)] H).bind fun r27 =>
  inN r27.1 [
  gotV 6 r27.2.1 fun v28 =>
  (id (
  (vBinV (.int .u32) .eql (v28 5) (v28 2)).bind fun x32_31 =>
  ifGV x32_31 (
  (vSliceSV (v28 0) none (some (v28 4))).bind fun x36_35 =>
  (vBinV .str .eql x36_35 (v28 1)).bind fun x38_37 =>
  ifVV x38_37 (
  some (0, [(.int .i64 0)], r27.2.2)) (
  some (1, [(strip (v28 0)), (strip (v28 1)), (strip (v28 2)), (v28 3), (strip (v28 4)), (strip (v28 5))], r27.2.2))) (
  some (1, [(v28 0), (v28 1), (strip (v28 2)), (v28 3), (v28 4), (strip (v28 5))], r27.2.2)) : Option (Nat × List V × VH))).bind fun r41 =>
  inN r41.1 [
  gotV 1 r41.2.1 fun v42 =>
  some ((v42 0), r41.2.2),
  gotV 6 r41.2.1 fun v43 =>
  (lpW' internal_bytealg_IndexRabinKarp_string__l11 [(v43 0), (v43 1), (v43 2), (v43 3), (strip (v43 4)), (v43 5), (v43 4)] r41.2.2).bind fun r92 =>
  inN r92.1 [
  gotV 0 r92.2.1 fun v93 =>
  some ((.int .i64 (-1)), r92.2.2),
  gotV 1 r92.2.1 fun v95 =>
  some ((v95 0), r92.2.2)]]] := (callV_eq vb _ _ _ rfl).trans (by kernel_rfl)

/-! internal/bytealg.hashStr[string] : kind 1, moves [] -/
noncomputable def internal_bytealg_hashStr_string__l3 : List V → VH → Option (Option Nat × List V × VH) := roundV (vb.ctx cv lpW') (vb.b.ann 121) (vb.takes 121) ⟨⟨[0, 4, 5], [], []⟩, [(.exit 0, ⟨[0, 4], [], []⟩)]⟩ (loopIn Tryd.f121 3)
noncomputable def internal_bytealg_hashStr_string__l8 : List V → VH → Option (Option Nat × List V × VH) := roundV (vb.ctx cv lpW') (vb.b.ann 121) (vb.takes 121) ⟨⟨[4, 6, 7, 8], [], []⟩, [(.exit 2, ⟨[4, 6], [], []⟩)]⟩ (loopIn Tryd.f121 8)
theorem internal_bytealg_hashStr_string__l3_eq (v0 v1 v2 : V) (H : VH) : internal_bytealg_hashStr_string__l3 [v0, v1, v2] H =
  (vLenSV v0).bind fun x11_6 =>
  (vBinV (.int .i64) .lss v2 x11_6).bind fun x12_7 =>
  ifVV x12_7 (
  (vBinV (.int .u32) .mul v1 (.int .u32 16777619)).bind fun x16_9 =>
  (vIndexSV (strip v0) (strip v2)).bind fun x19_12 =>
  (vConvV .u32 x19_12).bind fun x20_13 =>
  (vBinV (.int .u32) .add x16_9 x20_13).bind fun x21_14 =>
  (vBinV (.int .i64) .add (strip (strip v2)) (.int .i64 1)).bind fun x14_17 =>
  some (none, [(strip (strip v0)), x21_14, x14_17], H)) (
  some (some 0, [(strip v0), v1], H)) := by kernel_rfl
theorem internal_bytealg_hashStr_string__l8_eq (v0 v1 v2 v3 : V) (H : VH) : internal_bytealg_hashStr_string__l8 [v0, v1, v2, v3] H =
  (vBinV (.int .i64) .gtr v3 (.int .i64 0)).bind fun x25_27 =>
  ifVV x25_27 (
  (id (
  (id (
  (vBinV (.int .i64) .and (strip v3) (.int .i64 1)).bind fun x29_29 =>
  (vBinV (.int .i64) .neq x29_29 (.int .i64 0)).bind fun x30_30 =>
  ifVV x30_30 (
  (vBinV (.int .u32) .mul v1 v2).bind fun x33_33 =>
  some (0, [v0, x33_33, (strip v2), (strip (strip v3))], H)) (
  some (0, [v0, v1, v2, (strip (strip v3))], H)) : Option (Nat × List V × VH))).bind fun r35 =>
  inN r35.1 [
  gotV 4 r35.2.1 fun v36 =>
  (vBinV (.int .u32) .mul (v36 2) (strip (v36 2))).bind fun x36_39 =>
  some (0, [(v36 0), (v36 1), x36_39, (v36 3)], r35.2.2)] : Option (Nat × List V × VH))).bind fun r41 =>
  inN r41.1 [
  gotV 4 r41.2.1 fun v42 =>
  (vBinV (.int .i64) .shr (v42 3) (.int .u64 1)).bind fun x27_44 =>
  some (none, [(v42 0), (v42 1), (v42 2), x27_44], r41.2.2)]) (
  some (some 0, [v0, v1], H)) := by kernel_rfl
theorem internal_bytealg_hashStr_string__eq (a0 : V) (H : VH) : cv id_internal_bytealg_hashStr_string_ [a0] H =
  (lpW' internal_bytealg_hashStr_string__l3 [a0, (.int .u32 0), (.int .i64 0)] H).bind fun r19 =>
  inN r19.1 [
  gotV 2 r19.2.1 fun v20 =>
  (vLenSV (v20 0)).bind fun x23_24 =>
  (lpW' internal_bytealg_hashStr_string__l8 [(v20 1), (.int .u32 1), (.int .u32 16777619), x23_24] r19.2.2).bind fun r46 =>
  inN r46.1 [
  gotV 2 r46.2.1 fun v47 =>
  some ((.tup [(v47 0), (v47 1)]), r46.2.2)]] := (callV_eq vb _ _ _ rfl).trans (by kernel_rfl)

/-! loop.example/mailwire/impl.isLocal : kind 1, moves [] -/
theorem impl_isLocal_eq (a0 : V) (H : VH) : cv id_impl_isLocal [a0] H =
  (vLenSV a0).bind fun x4_2 =>
  (vBinV (.int .i64) .leq x4_2 (.int .i64 30)).bind fun x5_3 =>
  ifGV x5_3 (
  (pc id_strings_Split [(frz H (strip a0)), (frz H (.str [46]))]).bind fun x8_6 =>
  (qc id_slices_ContainsFunc___string_string_ [(frz H x8_6), (frz H (.fn id_impl_isLocal_1 []))]).bind fun x9_7 =>
  (vUnV .not x9_7).bind fun x10_8 =>
  some (x10_8, H)) (
  some ((.bool false), H)) := (callV_eq vb _ _ _ rfl).trans (by kernel_rfl)

/-! strings.Split : kind 2, moves [] -/
theorem strings_Split_eq (a0 a1 : V) (H : VH) : cv id_strings_Split [a0, a1] H =
  (pc id_strings_genSplit [(frz H a0), (frz H a1), (frz H (.int .i64 0)), (frz H (.int .i64 (-1)))]).bind fun x7_3 =>
  some (x7_3, H) := (callV_eq vb _ _ _ rfl).trans (by kernel_rfl)

/-! strings.genSplit : kind 2, moves [] -/
noncomputable def strings_genSplit_l11 : List V → VH → Option (Option Nat × List V × VH) := roundV (vb.ctx cv lpW') (vb.b.ann 100) (vb.takes 100) ⟨⟨[0, 1, 2, 3, 9, 10], [], []⟩, [(.exit 0, ⟨[0, 9, 10], [], []⟩)]⟩ (loopIn Tryd.f100 11)
theorem strings_genSplit_l11_eq (v0 v1 v2 v3 v4 v5 : V) (H : VH) : strings_genSplit_l11 [v0, v1, v2, v3, v4, v5] H =
  (vBinV (.int .i64) .lss v5 v3).bind fun x36_34 =>
  ifVV x36_34 (
  (qc id_strings_Index [(frz H v0), (frz H v1)]).bind fun x39_37 =>
  (vBinV (.int .i64) .lss x39_37 (.int .i64 0)).bind fun x41_40 =>
  ifVV x41_40 (
  some (some 0, [(strip v0), v4, (strip v5)], H)) (
  (vBinV (.int .i64) .add (strip x39_37) v2).bind fun x47_46 =>
  (vSliceSV (strip v0) none (some x47_46)).bind fun x48_47 =>
  (vIdxV 1 (strip v4) (strip v5)).bind fun x49_48 =>
  (vOneV x48_47).bind fun y50 =>
  (stO x49_48 [y50] H).bind fun H51 =>
  (vLenSV (strip v1)).bind fun x53_55 =>
  (vBinV (.int .i64) .add (strip (strip x39_37)) x53_55).bind fun x54_56 =>
  (vSliceSV (strip (strip v0)) (some x54_56) none).bind fun x55_57 =>
  (vBinV (.int .i64) .add (strip (strip v5)) (.int .i64 1)).bind fun x57_60 =>
  some (none, [x55_57, (strip (strip v1)), (strip v2), (strip v3), v4, x57_60], H51))) (
  some (some 0, [v0, v4, (strip v5)], H)) := by kernel_rfl
theorem strings_genSplit_eq (a0 a1 a2 a3 : V) (H : VH) : cv id_strings_genSplit [a0, a1, a2, a3] H =
  (vBinV (.int .i64) .eql a3 (.int .i64 0)).bind fun x13_2 =>
  ifVV x13_2 (
  some ((.sl true []), H)) (
  (vBinV .str .eql a1 (.str [])).bind fun x15_5 =>
  ifVV x15_5 (
  (pc id_strings_explode [(frz H a0), (frz H (strip a3))]).bind fun x18_8 =>
  some (x18_8, H)) (
  (id (
  (vBinV (.int .i64) .lss (strip a3) (.int .i64 0)).bind fun x20_11 =>
  ifVV x20_11 (
  (qc id_strings_Count [(frz H a0), (frz H (strip a1))]).bind fun x23_14 =>
  (vBinV (.int .i64) .add x23_14 (.int .i64 1)).bind fun x24_15 =>
  some (0, [(strip a0), (strip (strip a1)), a2, x24_15], H)) (
  some (0, [a0, (strip a1), a2, (strip (strip a3))], H)) : Option (Nat × List V × VH))).bind fun r17 =>
  inN r17.1 [
  gotV 4 r17.2.1 fun v18 =>
  (vLenSV (v18 0)).bind fun x27_21 =>
  (vBinV (.int .i64) .add x27_21 (.int .i64 1)).bind fun x28_22 =>
  (vMinV (v18 3) x28_22).bind fun x29_23 =>
  (mkLenV 16 x29_23 x29_23).bind fun x31_26 =>
  (vBinV (.int .i64) .sub (strip x29_23) (.int .i64 1)).bind fun x33_29 =>
  (lpW' strings_genSplit_l11 [(strip (v18 0)), (v18 1), (v18 2), x33_29, (.obs r17.2.2.length 0 x31_26.1 1), (.int .i64 0)] (r17.2.2 ++ [repV x31_26.2 [(.str [])]])).bind fun r62 =>
  inN r62.1 [
  gotV 3 r62.2.1 fun v63 =>
  (vIdxV 1 (strip (v63 1)) (v63 2)).bind fun x61_67 =>
  (vOneV (v63 0)).bind fun y69 =>
  (stO x61_67 [y69] r62.2.2).bind fun H70 =>
  (vBinV (.int .i64) .add (strip (v63 2)) (.int .i64 1)).bind fun x64_73 =>
  (vSliceVV 1 (strip (v63 1)) none (some x64_73)).bind fun x65_74 =>
  some (x65_74, H70)]])) := (callV_eq vb _ _ _ rfl).trans (by kernel_rfl)

/-! strings.explode : kind 2, moves [] -/
noncomputable def strings_explode_l6 : List V → VH → Option (Option Nat × List V × VH) := roundV (vb.ctx cv lpW') (vb.b.ann 113) (vb.takes 113) ⟨⟨[0, 1, 6, 7], [], []⟩, [(.exit 0, ⟨[0, 1, 6], [], []⟩)]⟩ (loopIn Tryd.f113 6)
theorem strings_explode_l6_eq (v0 v1 v2 v3 : V) (H : VH) : strings_explode_l6 [v0, v1, v2, v3] H =
  (vBinV (.int .i64) .sub v1 (.int .i64 1)).bind fun x24_24 =>
  (vBinV (.int .i64) .lss v3 x24_24).bind fun x25_25 =>
  ifVV x25_25 (
  (qc id_unicode_utf8_DecodeRuneInString [(frz H v0)]).bind fun x30_27 =>
  (vExtV x30_27 0).bind fun x31_29 =>
  (vExtV x30_27 1).bind fun x32_30 =>
  (vSliceSV (strip v0) none (some (strip x32_30))).bind fun x37_37 =>
  (vIdxV 1 (strip v2) (strip v3)).bind fun x38_38 =>
  (vOneV x37_37).bind fun y40 =>
  (stO x38_38 [y40] H).bind fun H41 =>
  (vSliceSV (strip (strip v0)) (some (strip (strip x32_30))) none).bind fun x41_44 =>
  (vBinV (.int .i64) .add (strip (strip v3)) (.int .i64 1)).bind fun x27_47 =>
  some (none, [x41_44, (strip v1), v2, x27_47], H41)) (
  some (some 0, [v0, (strip v1), v2], H)) := by kernel_rfl
theorem strings_explode_eq (a0 a1 : V) (H : VH) : cv id_strings_explode [a0, a1] H =
  (qc id_unicode_utf8_RuneCountInString [(frz H a0)]).bind fun x11_2 =>
  (id (
  (vBinV (.int .i64) .lss a1 (.int .i64 0)).bind fun x13_5 =>
  ifGV x13_5 (
  some (0, [(strip a0), x11_2], H)) (
  (vBinV (.int .i64) .gtr (strip a1) x11_2).bind fun x17_12 =>
  ifVV x17_12 (
  some (0, [(strip a0), (strip x11_2)], H)) (
  some (0, [(strip a0), (strip (strip a1))], H))) : Option (Nat × List V × VH))).bind fun r16 =>
  inN r16.1 [
  gotV 2 r16.2.1 fun v17 =>
  (mkLenV 16 (v17 1) (v17 1)).bind fun x21_19 =>
  (lpW' strings_explode_l6 [(v17 0), (strip (v17 1)), (.obs r16.2.2.length 0 x21_19.1 1), (.int .i64 0)] (r16.2.2 ++ [repV x21_19.2 [(.str [])]])).bind fun r49 =>
  inN r49.1 [
  gotV 3 r49.2.1 fun v50 =>
  (vBinV (.int .i64) .gtr (v50 1) (.int .i64 0)).bind fun x43_52 =>
  ifVV x43_52 (
  (vBinV (.int .i64) .sub (strip (v50 1)) (.int .i64 1)).bind fun x46_55 =>
  (vIdxV 1 (strip (v50 2)) x46_55).bind fun x48_57 =>
  (vOneV (v50 0)).bind fun y59 =>
  (stO x48_57 [y59] r49.2.2).bind fun H60 =>
  some ((v50 2), H60)) (
  some ((v50 2), r49.2.2))]] := (callV_eq vb _ _ _ rfl).trans (by kernel_rfl)

/-! unicode/utf8.RuneCountInString : kind 1, moves [] -/
theorem unicode_utf8_RuneCountInString_eq (a0 : V) (H : VH) : cv id_unicode_utf8_RuneCountInString [a0] H =
  none := (callV_eq vb _ _ _ rfl).trans (by kernel_rfl)

/-! unicode/utf8.DecodeRuneInString : kind 1, moves [] -/
theorem unicode_utf8_DecodeRuneInString_eq (a0 : V) (H : VH) : cv id_unicode_utf8_DecodeRuneInString [a0] H =
  (vBinV .str .neq a0 (.str [])).bind fun x5_3 =>
  ifGV x5_3 (
  (vIndexSV (strip a0) (.int .i64 0)).bind fun x8_6 =>
  (vBinV (.int .u8) .lss x8_6 (.int .u8 128)).bind fun x9_7 =>
  ifVV x9_7 (
  (vIndexSV (strip (strip a0)) (.int .i64 0)).bind fun x12_10 =>
  (vConvV .i32 x12_10).bind fun x13_11 =>
  some ((.tup [x13_11, (.int .i64 1)]), H)) (
  (qc id_unicode_utf8_decodeRuneInStringSlow [(frz H (strip (strip a0)))]).bind fun x16_15 =>
  (vExtV x16_15 0).bind fun x17_17 =>
  (vExtV x16_15 1).bind fun x18_18 =>
  some ((.tup [(strip x17_17), (strip x18_18)]), H))) (
  (qc id_unicode_utf8_decodeRuneInStringSlow [(frz H (strip a0))]).bind fun x16_23 =>
  (vExtV x16_23 0).bind fun x17_25 =>
  (vExtV x16_23 1).bind fun x18_26 =>
  some ((.tup [(strip x17_25), (strip x18_26)]), H)) := (callV_eq vb _ _ _ rfl).trans (by kernel_rfl)

/-! unicode/utf8.decodeRuneInStringSlow : kind 1, moves [] -/
theorem unicode_utf8_decodeRuneInStringSlow_eq (a0 : V) (H : VH) : cv id_unicode_utf8_decodeRuneInStringSlow [a0] H =
  (vLenSV a0).bind fun x14_3 =>
  (vBinV (.int .i64) .lss x14_3 (.int .i64 1)).bind fun x16_6 =>
  ifVV x16_6 (
  some ((.tup [(.int .i32 65533), (.int .i64 0)]), H)) (
  (vIndexSV (strip a0) (.int .i64 0)).bind fun x18_10 =>
  none) := (callV_eq vb _ _ _ rfl).trans (by kernel_rfl)

/-! strings.Count : kind 1, moves [] -/
noncomputable def strings_Count_l6 : List V → VH → Option (Option Nat × List V × VH) := roundV (vb.ctx cv lpW') (vb.b.ann 114) (vb.takes 114) ⟨⟨[0, 1, 5], [], []⟩, [(.ret, ⟨[4], [], []⟩)]⟩ (loopIn Tryd.f114 6)
theorem strings_Count_l6_eq (v0 v1 v2 : V) (H : VH) : strings_Count_l6 [v0, v1, v2] H =
  (qc id_strings_Index [(frz H v0), (frz H v1)]).bind fun x22_19 =>
  (vBinV (.int .i64) .eql x22_19 (.int .i64 (-1))).bind fun x24_22 =>
  ifVV x24_22 (
  some (some 0, [v2], H)) (
  (vBinV (.int .i64) .add v2 (.int .i64 1)).bind fun x27_26 =>
  (vLenSV (strip v1)).bind fun x31_31 =>
  (vBinV (.int .i64) .add (strip x22_19) x31_31).bind fun x32_32 =>
  (vSliceSV (strip v0) (some x32_32) none).bind fun x33_33 =>
  some (none, [x33_33, (strip (strip v1)), x27_26], H)) := by kernel_rfl
theorem strings_Count_eq (a0 a1 : V) (H : VH) : cv id_strings_Count [a0, a1] H =
  (vLenSV a1).bind fun x8_2 =>
  (vBinV (.int .i64) .eql x8_2 (.int .i64 0)).bind fun x9_3 =>
  ifVV x9_3 (
  (qc id_unicode_utf8_RuneCountInString [(frz H a0)]).bind fun x11_5 =>
  (vBinV (.int .i64) .add x11_5 (.int .i64 1)).bind fun x12_6 =>
  some (x12_6, H)) (
  (vLenSV (strip a1)).bind fun x14_9 =>
  (vBinV (.int .i64) .eql x14_9 (.int .i64 1)).bind fun x15_10 =>
  ifVV x15_10 (
  (vIndexSV (strip (strip a1)) (.int .i64 0)).bind fun x18_13 =>
  (extB 1 [a0, x18_13] fun x19_14 =>
    some (x19_14, H))) (
  (lpW' strings_Count_l6 [a0, (strip (strip a1)), (.int .i64 0)] H).bind fun r35 =>
  inN r35.1 [
  gotV 1 r35.2.1 fun v36 =>
  some ((v36 0), r35.2.2)])) := (callV_eq vb _ _ _ rfl).trans (by kernel_rfl)

/-! strings.Index : kind 1, moves [] -/
theorem strings_Index_eq (a0 a1 : V) (H : VH) : cv id_strings_Index [a0, a1] H =
  (qc id_internal_stringslite_Index [(frz H a0), (frz H a1)]).bind fun x7_3 =>
  some (x7_3, H) := (callV_eq vb _ _ _ rfl).trans (by kernel_rfl)

/-! slices.ContainsFunc[[]string,string] : kind 1, moves [] -/
theorem slices_ContainsFunc___string_string__eq (a0 a1 : V) (H : VH) : cv id_slices_ContainsFunc___string_string_ [a0, a1] H =
  (qc id_slices_IndexFunc___string_string_ [(frz H (strip a0)), (frz H a1)]).bind fun x7_3 =>
  (vBinV (.int .i64) .geq x7_3 (.int .i64 0)).bind fun x8_4 =>
  some (x8_4, H) := (callV_eq vb _ _ _ rfl).trans (by kernel_rfl)

/-! slices.IndexFunc[[]string,string] : kind 1, moves [] -/
noncomputable def slices_IndexFunc___string_string__l2 : List V → VH → Option (Option Nat × List V × VH) := roundV (vb.ctx cv lpW') (vb.b.ann 96) (vb.takes 96) ⟨⟨[0, 1, 7, 8], [], []⟩, [(.exit 0, ⟨[], [], []⟩), (.ret, ⟨[4], [], []⟩)]⟩ (loopIn Tryd.f96 2)
theorem slices_IndexFunc___string_string__l2_eq (v0 v1 v2 v3 : V) (H : VH) : slices_IndexFunc___string_string__l2 [v0, v1, v2, v3] H =
  (vBinV (.int .i64) .lss v3 v2).bind fun x9_4 =>
  ifVV x9_4 (
  (vIdxV 1 (strip v0) v3).bind fun x14_10 =>
  (ldO globB false false 1 x14_10 H).bind fun r12 =>
  (calleeV v1).bind fun p14 =>
  (qc p14.1 ((([r12.1] : List V) ++ p14.2).map (frz r12.2))).bind fun x16_13 =>
  ifVV x16_13 (
  some (some 1, [(strip v3)], r12.2)) (
  (vBinV (.int .i64) .add (strip v3) (.int .i64 1)).bind fun x18_17 =>
  some (none, [v0, (strip v1), v2, x18_17], r12.2))) (
  some (some 0, [], H)) := by kernel_rfl
theorem slices_IndexFunc___string_string__eq (a0 a1 : V) (H : VH) : cv id_slices_IndexFunc___string_string_ [a0, a1] H =
  (vLenVV (strip a0)).bind fun x7_2 =>
  (lpW' slices_IndexFunc___string_string__l2 [a0, a1, x7_2, (.int .i64 0)] H).bind fun r19 =>
  inN r19.1 [
  gotV 0 r19.2.1 fun v20 =>
  some ((.int .i64 (-1)), r19.2.2),
  gotV 1 r19.2.1 fun v22 =>
  some ((v22 0), r19.2.2)] := (callV_eq vb _ _ _ rfl).trans (by kernel_rfl)

/-! loop.example/mailwire/impl.isLocal$1 : kind 1, moves [] -/
theorem impl_isLocal_1_eq (a0 : V) (H : VH) : cv id_impl_isLocal_1 [a0] H =
  (qc id_impl_AtomValid [(frz H a0)]).bind fun x4_2 =>
  (vUnV .not x4_2).bind fun x5_3 =>
  some (x5_3, H) := (callV_eq vb _ _ _ rfl).trans (by kernel_rfl)

/-! loop.example/mailwire/impl.AtomValid : kind 1, moves [] -/
theorem impl_AtomValid_eq (a0 : V) (H : VH) : cv id_impl_AtomValid [a0] H =
  (vLenSV a0).bind fun x4_2 =>
  (vBinV (.int .i64) .geq x4_2 (.int .i64 1)).bind fun x5_3 =>
  ifGV x5_3 (
  (vLenSV (strip a0)).bind fun x8_6 =>
  (vBinV (.int .i64) .leq x8_6 (.int .i64 40)).bind fun x9_7 =>
  ifGV x9_7 (
  (qc id_impl_allBytes [(frz H (strip (strip a0))), (frz H (.fn id_impl_isAtomByte []))]).bind fun x13_11 =>
  some (x13_11, H)) (
  some ((.bool false), H))) (
  some ((.bool false), H)) := (callV_eq vb _ _ _ rfl).trans (by kernel_rfl)

/-! loop.example/mailwire/impl.allBytes : kind 1, moves [] -/
noncomputable def impl_allBytes_l2 : List V → VH → Option (Option Nat × List V × VH) := roundV (vb.ctx cv lpW') (vb.b.ann 101) (vb.takes 101) ⟨⟨[0, 1, 7, 8], [], []⟩, [(.exit 0, ⟨[], [], []⟩), (.ret, ⟨[4], [], []⟩)]⟩ (loopIn Tryd.f101 2)
theorem impl_allBytes_l2_eq (v0 v1 v2 v3 : V) (H : VH) : impl_allBytes_l2 [v0, v1, v2, v3] H =
  (vBinV (.int .i64) .lss v3 v2).bind fun x9_4 =>
  ifVV x9_4 (
  (vIndexSV v0 v3).bind fun x14_10 =>
  (calleeV v1).bind fun p12 =>
  (qc p12.1 ((([x14_10] : List V) ++ p12.2).map (frz H))).bind fun x15_11 =>
  (vUnV .not x15_11).bind fun x16_13 =>
  ifVV x16_13 (
  some (some 1, [(.bool false)], H)) (
  (vBinV (.int .i64) .add (strip v3) (.int .i64 1)).bind fun x17_15 =>
  some (none, [(strip v0), (strip v1), v2, x17_15], H))) (
  some (some 0, [], H)) := by kernel_rfl
theorem impl_allBytes_eq (a0 a1 : V) (H : VH) : cv id_impl_allBytes [a0, a1] H =
  (vLenSV a0).bind fun x7_2 =>
  (lpW' impl_allBytes_l2 [(strip a0), a1, x7_2, (.int .i64 0)] H).bind fun r17 =>
  inN r17.1 [
  gotV 0 r17.2.1 fun v18 =>
  some ((.bool true), r17.2.2),
  gotV 1 r17.2.1 fun v20 =>
  some ((v20 0), r17.2.2)] := (callV_eq vb _ _ _ rfl).trans (by kernel_rfl)

/-! loop.example/mailwire/impl.isAtomByte : kind 1, moves [] -/
theorem impl_isAtomByte_eq (a0 : V) (H : VH) : cv id_impl_isAtomByte [a0] H =
  (qc id_impl_isLetter [(frz H a0)]).bind fun x4_2 =>
  ifGV x4_2 (
  some ((.bool true), H)) (
  (qc id_impl_isDigit [(frz H (strip a0))]).bind fun x7_27 =>
  ifGV x7_27 (
  some ((.bool true), H)) (
  (vBinV (.int .u8) .eql (strip (strip a0)) (.int .u8 33)).bind fun x11_51 =>
  ifGV x11_51 (
  some ((.bool true), H)) (
  (vBinV (.int .u8) .geq (strip (strip (strip a0))) (.int .u8 35)).bind fun x15_73 =>
  ifGV x15_73 (
  (vBinV (.int .u8) .leq (strip (strip (strip (strip a0)))) (.int .u8 39)).bind fun x18_76 =>
  ifGV x18_76 (
  some ((.bool true), H)) (
  (vBinV (.int .u8) .eql (strip (strip (strip (strip (strip a0))))) (.int .u8 42)).bind fun x23_97 =>
  ifGV x23_97 (
  some ((.bool true), H)) (
  (vBinV (.int .u8) .eql (strip (strip (strip (strip (strip (strip a0)))))) (.int .u8 43)).bind fun x27_115 =>
  ifGV x27_115 (
  some ((.bool true), H)) (
  (vBinV (.int .u8) .eql (strip (strip (strip (strip (strip (strip (strip a0))))))) (.int .u8 45)).bind fun x31_131 =>
  ifGV x31_131 (
  some ((.bool true), H)) (
  (vBinV (.int .u8) .eql (strip (strip (strip (strip (strip (strip (strip (strip a0)))))))) (.int .u8 47)).bind fun x35_145 =>
  ifGV x35_145 (
  some ((.bool true), H)) (
  (vBinV (.int .u8) .eql (strip (strip (strip (strip (strip (strip (strip (strip (strip a0))))))))) (.int .u8 61)).bind fun x39_157 =>
  ifGV x39_157 (
  some ((.bool true), H)) (
  (vBinV (.int .u8) .eql (strip (strip (strip (strip (strip (strip (strip (strip (strip (strip a0)))))))))) (.int .u8 63)).bind fun x43_167 =>
  ifGV x43_167 (
  some ((.bool true), H)) (
  (vBinV (.int .u8) .geq (strip (strip (strip (strip (strip (strip (strip (strip (strip (strip (strip a0))))))))))) (.int .u8 94)).bind fun x47_175 =>
  ifGV x47_175 (
  (vBinV (.int .u8) .leq (strip (strip (strip (strip (strip (strip (strip (strip (strip (strip (strip (strip a0)))))))))))) (.int .u8 96)).bind fun x50_178 =>
  ifGV x50_178 (
  some ((.bool true), H)) (
  (vBinV (.int .u8) .geq (strip (strip (strip (strip (strip (strip (strip (strip (strip (strip (strip (strip (strip a0))))))))))))) (.int .u8 123)).bind fun x55_185 =>
  ifGV x55_185 (
  (vBinV (.int .u8) .leq (strip (strip (strip (strip (strip (strip (strip (strip (strip (strip (strip (strip (strip (strip a0)))))))))))))) (.int .u8 126)).bind fun x58_188 =>
  some (x58_188, H)) (
  some ((.bool false), H)))) (
  (vBinV (.int .u8) .geq (strip (strip (strip (strip (strip (strip (strip (strip (strip (strip (strip (strip a0)))))))))))) (.int .u8 123)).bind fun x55_199 =>
  ifGV x55_199 (
  (vBinV (.int .u8) .leq (strip (strip (strip (strip (strip (strip (strip (strip (strip (strip (strip (strip (strip a0))))))))))))) (.int .u8 126)).bind fun x58_202 =>
  some (x58_202, H)) (
  some ((.bool false), H))))))))))) (
  (vBinV (.int .u8) .eql (strip (strip (strip (strip a0)))) (.int .u8 42)).bind fun x23_213 =>
  ifGV x23_213 (
  some ((.bool true), H)) (
  (vBinV (.int .u8) .eql (strip (strip (strip (strip (strip a0))))) (.int .u8 43)).bind fun x27_231 =>
  ifGV x27_231 (
  some ((.bool true), H)) (
  (vBinV (.int .u8) .eql (strip (strip (strip (strip (strip (strip a0)))))) (.int .u8 45)).bind fun x31_247 =>
  ifGV x31_247 (
  some ((.bool true), H)) (
  (vBinV (.int .u8) .eql (strip (strip (strip (strip (strip (strip (strip a0))))))) (.int .u8 47)).bind fun x35_261 =>
  ifGV x35_261 (
  some ((.bool true), H)) (
  (vBinV (.int .u8) .eql (strip (strip (strip (strip (strip (strip (strip (strip a0)))))))) (.int .u8 61)).bind fun x39_273 =>
  ifGV x39_273 (
  some ((.bool true), H)) (
  (vBinV (.int .u8) .eql (strip (strip (strip (strip (strip (strip (strip (strip (strip a0))))))))) (.int .u8 63)).bind fun x43_283 =>
  ifGV x43_283 (
  some ((.bool true), H)) (
  (vBinV (.int .u8) .geq (strip (strip (strip (strip (strip (strip (strip (strip (strip (strip a0)))))))))) (.int .u8 94)).bind fun x47_291 =>
  ifGV x47_291 (
  (vBinV (.int .u8) .leq (strip (strip (strip (strip (strip (strip (strip (strip (strip (strip (strip a0))))))))))) (.int .u8 96)).bind fun x50_294 =>
  ifGV x50_294 (
  some ((.bool true), H)) (
  (vBinV (.int .u8) .geq (strip (strip (strip (strip (strip (strip (strip (strip (strip (strip (strip (strip a0)))))))))))) (.int .u8 123)).bind fun x55_301 =>
  ifGV x55_301 (
  (vBinV (.int .u8) .leq (strip (strip (strip (strip (strip (strip (strip (strip (strip (strip (strip (strip (strip a0))))))))))))) (.int .u8 126)).bind fun x58_304 =>
  some (x58_304, H)) (
  some ((.bool false), H)))) (
  (vBinV (.int .u8) .geq (strip (strip (strip (strip (strip (strip (strip (strip (strip (strip (strip a0))))))))))) (.int .u8 123)).bind fun x55_315 =>
  ifGV x55_315 (
  (vBinV (.int .u8) .leq (strip (strip (strip (strip (strip (strip (strip (strip (strip (strip (strip (strip a0)))))))))))) (.int .u8 126)).bind fun x58_318 =>
  some (x58_318, H)) (
  some ((.bool false), H))))))))))))) := (callV_eq vb _ _ _ rfl).trans (by kernel_rfl)

/-! loop.example/mailwire/impl.isLetter : kind 1, moves [] -/
theorem impl_isLetter_eq (a0 : V) (H : VH) : cv id_impl_isLetter [a0] H =
  (vBinV (.int .u8) .geq a0 (.int .u8 97)).bind fun x4_2 =>
  ifGV x4_2 (
  (vBinV (.int .u8) .leq (strip a0) (.int .u8 122)).bind fun x7_5 =>
  ifGV x7_5 (
  some ((.bool true), H)) (
  (vBinV (.int .u8) .geq (strip (strip a0)) (.int .u8 65)).bind fun x11_11 =>
  ifGV x11_11 (
  (vBinV (.int .u8) .leq (strip (strip (strip a0))) (.int .u8 90)).bind fun x14_14 =>
  some (x14_14, H)) (
  some ((.bool false), H)))) (
  (vBinV (.int .u8) .geq (strip a0) (.int .u8 65)).bind fun x11_24 =>
  ifGV x11_24 (
  (vBinV (.int .u8) .leq (strip (strip a0)) (.int .u8 90)).bind fun x14_27 =>
  some (x14_27, H)) (
  some ((.bool false), H))) := (callV_eq vb _ _ _ rfl).trans (by kernel_rfl)

/-! loop.example/mailwire/impl.isDigit : kind 1, moves [] -/
theorem impl_isDigit_eq (a0 : V) (H : VH) : cv id_impl_isDigit [a0] H =
  (vBinV (.int .u8) .geq a0 (.int .u8 48)).bind fun x4_2 =>
  ifGV x4_2 (
  (vBinV (.int .u8) .leq (strip a0) (.int .u8 57)).bind fun x7_5 =>
  some (x7_5, H)) (
  some ((.bool false), H)) := (callV_eq vb _ _ _ rfl).trans (by kernel_rfl)

/-! loop.example/mailwire/impl.isDomain : kind 1, moves [] -/
theorem impl_isDomain_eq (a0 : V) (H : VH) : cv id_impl_isDomain [a0] H =
  (vLenSV a0).bind fun x4_2 =>
  (vBinV (.int .i64) .leq x4_2 (.int .i64 40)).bind fun x5_3 =>
  ifGV x5_3 (
  (pc id_strings_Split [(frz H (strip a0)), (frz H (.str [46]))]).bind fun x8_6 =>
  (qc id_slices_ContainsFunc___string_string_ [(frz H x8_6), (frz H (.fn id_impl_isDomain_1 []))]).bind fun x9_7 =>
  (vUnV .not x9_7).bind fun x10_8 =>
  some (x10_8, H)) (
  some ((.bool false), H)) := (callV_eq vb _ _ _ rfl).trans (by kernel_rfl)

/-! loop.example/mailwire/impl.isDomain$1 : kind 1, moves [] -/
theorem impl_isDomain_1_eq (a0 : V) (H : VH) : cv id_impl_isDomain_1 [a0] H =
  (qc id_impl_isLabel [(frz H a0)]).bind fun x4_2 =>
  (vUnV .not x4_2).bind fun x5_3 =>
  some (x5_3, H) := (callV_eq vb _ _ _ rfl).trans (by kernel_rfl)

/-! loop.example/mailwire/impl.isLabel : kind 1, moves [] -/
theorem impl_isLabel_eq (a0 : V) (H : VH) : cv id_impl_isLabel [a0] H =
  (vBinV .str .neq a0 (.str [])).bind fun x4_2 =>
  ifGV x4_2 (
  (vIndexSV (strip a0) (.int .i64 0)).bind fun x7_5 =>
  (vBinV (.int .u8) .neq x7_5 (.int .u8 45)).bind fun x8_6 =>
  ifGV x8_6 (
  (vLenSV (strip (strip (strip a0)))).bind fun x13_11 =>
  (vBinV (.int .i64) .sub x13_11 (.int .i64 1)).bind fun x14_12 =>
  (vIndexSV (strip (strip a0)) x14_12).bind fun x15_13 =>
  (vBinV (.int .u8) .neq x15_13 (.int .u8 45)).bind fun x16_14 =>
  ifGV x16_14 (
  (qc id_impl_allBytes [(frz H (strip (strip (strip (strip a0))))), (frz H (.fn id_impl_isLabel_1 []))]).bind fun x20_18 =>
  some (x20_18, H)) (
  some ((.bool false), H))) (
  some ((.bool false), H))) (
  some ((.bool false), H)) := (callV_eq vb _ _ _ rfl).trans (by kernel_rfl)

/-! loop.example/mailwire/impl.isLabel$1 : kind 1, moves [] -/
theorem impl_isLabel_1_eq (a0 : V) (H : VH) : cv id_impl_isLabel_1 [a0] H =
  (vBinV (.int .u8) .geq a0 (.int .u8 97)).bind fun x4_2 =>
  ifGV x4_2 (
  (vBinV (.int .u8) .leq (strip a0) (.int .u8 122)).bind fun x7_5 =>
  ifGV x7_5 (
  some ((.bool true), H)) (
  (qc id_impl_isDigit [(frz H (strip (strip a0)))]).bind fun x11_13 =>
  ifGV x11_13 (
  some ((.bool true), H)) (
  (vBinV (.int .u8) .eql (strip (strip (strip a0))) (.int .u8 45)).bind fun x15_19 =>
  some (x15_19, H)))) (
  (qc id_impl_isDigit [(frz H (strip a0))]).bind fun x11_25 =>
  ifGV x11_25 (
  some ((.bool true), H)) (
  (vBinV (.int .u8) .eql (strip (strip a0)) (.int .u8 45)).bind fun x15_31 =>
  some (x15_31, H))) := (callV_eq vb _ _ _ rfl).trans (by kernel_rfl)

/-! loop.example/mailwire/impl.draftValid$1 : kind 1, moves [] -/
theorem impl_draftValid_1_eq (a0 : V) (H : VH) : cv id_impl_draftValid_1 [a0] H =
  (qc id_impl_isPath [(frz H a0)]).bind fun x4_2 =>
  (vUnV .not x4_2).bind fun x5_3 =>
  some (x5_3, H) := (callV_eq vb _ _ _ rfl).trans (by kernel_rfl)

/-! loop.example/mailwire/impl.areTexts : kind 1, moves [] -/
theorem impl_areTexts_eq (a0 a1 : V) (H : VH) : cv id_impl_areTexts [a0, a1] H =
  (vLenVV (strip a0)).bind fun x6_2 =>
  (vBinV (.int .i64) .leq x6_2 a1).bind fun x8_4 =>
  ifGV x8_4 (
  (qc id_slices_ContainsFunc___string_string_ [(frz H (strip a0)), (frz H (.fn id_impl_areTexts_1 []))]).bind fun x11_7 =>
  (vUnV .not x11_7).bind fun x12_8 =>
  some (x12_8, H)) (
  some ((.bool false), H)) := (callV_eq vb _ _ _ rfl).trans (by kernel_rfl)

/-! loop.example/mailwire/impl.areTexts$1 : kind 1, moves [] -/
theorem impl_areTexts_1_eq (a0 : V) (H : VH) : cv id_impl_areTexts_1 [a0] H =
  (qc id_impl_TextValid [(frz H a0)]).bind fun x4_2 =>
  (vUnV .not x4_2).bind fun x5_3 =>
  some (x5_3, H) := (callV_eq vb _ _ _ rfl).trans (by kernel_rfl)

/-! loop.example/mailwire/impl.TextValid : kind 1, moves [] -/
noncomputable def impl_TextValid_l2 : List V → VH → Option (Option Nat × List V × VH) := roundV (vb.ctx cv lpW') (vb.b.ann 98) (vb.takes 98) ⟨⟨[0, 5, 6], [], []⟩, [(.exit 0, ⟨[0], [], []⟩), (.ret, ⟨[2], [], []⟩)]⟩ (loopIn Tryd.f98 2)
theorem impl_TextValid_l2_eq (v0 v1 v2 : V) (H : VH) : impl_TextValid_l2 [v0, v1, v2] H =
  (vBinV (.int .i64) .lss v2 v1).bind fun x7_4 =>
  ifVV x7_4 (
  (vIndexSV v0 v2).bind fun x11_9 =>
  (vBinV (.int .u8) .lss x11_9 (.int .u8 32)).bind fun x12_10 =>
  ifGV x12_10 (
  some (some 1, [(.bool false)], H)) (
  (vIndexSV (strip v0) (strip v2)).bind fun x16_16 =>
  (vBinV (.int .u8) .gtr x16_16 (.int .u8 126)).bind fun x17_17 =>
  ifVV x17_17 (
  some (some 1, [(.bool false)], H)) (
  (vBinV (.int .i64) .add (strip v2) (.int .i64 1)).bind fun x19_20 =>
  some (none, [(strip (strip v0)), v1, x19_20], H)))) (
  some (some 0, [v0], H)) := by kernel_rfl
theorem impl_TextValid_eq (a0 : V) (H : VH) : cv id_impl_TextValid [a0] H =
  (vLenSV a0).bind fun x5_2 =>
  (lpW' impl_TextValid_l2 [(strip a0), x5_2, (.int .i64 0)] H).bind fun r22 =>
  inN r22.1 [
  gotV 1 r22.2.1 fun v23 =>
  (vLenSV (v23 0)).bind fun x21_25 =>
  (vBinV (.int .i64) .leq x21_25 (.int .i64 200)).bind fun x22_26 =>
  some (x22_26, r22.2.2),
  gotV 1 r22.2.1 fun v28 =>
  some ((v28 0), r22.2.2)] := (callV_eq vb _ _ _ rfl).trans (by kernel_rfl)

/-! loop.example/mailwire/impl.normalMail : kind 0, moves [0] -/
noncomputable def impl_normalMail_l3 : List V → VH → Option (Option Nat × List V × VH) := roundV (vb.ctx cv lpW') (vb.b.ann 46) (vb.takes 46) ⟨⟨[3, 13, 14, 15], [(2, (2, 0))], [(2, 3)]⟩, [(.exit 0, ⟨[3], [(2, (2, 0))], [(2, 3)]⟩)]⟩ (loopIn Tryd.f46 3)
theorem impl_normalMail_l3_eq (v0 v1 v2 v3 v4 v5 v6 : V) (H : VH) : impl_normalMail_l3 [v0, v1, v2, v3, v4, v5, v6] H =
  (vBinV (.int .i64) .lss v3 v2).bind fun x16_18 =>
  ifVV x16_18 (
  (vIdxV 1 v1 v3).bind fun x17_19 =>
  (ldO globB false false 1 x17_19 H).bind fun r21 =>
  (vOffV v0 1).bind fun x19_23 =>
  (ldO globB false false 1 x19_23 r21.2).bind fun r25 =>
  (qc id_slices_Contains___string_string_ [(frz r25.2 r25.1), (frz r25.2 r21.1)]).bind fun x22_27 =>
  (vUnV .not x22_27).bind fun x23_28 =>
  ifVV x23_28 (
  (vOffV v0 1).bind fun x24_29 =>
  (ldO globB true false 1 x24_29 r25.2).bind fun r31 =>
  (vOneV (strip r21.1)).bind fun y34 =>
  (ownV r31.1).bind fun s36 =>
  (appV false 1 16 s36 (.sl true [[y34]])).bind fun x28_35 =>
  (vOffV v0 1).bind fun x29_37 =>
  (vOneV x28_35).bind fun y39 =>
  (stO x29_37 [y39] r31.2).bind fun H40 =>
  (vBinV (.int .i64) .add v3 (.int .i64 1)).bind fun x30_41 =>
  some (none, [v0, v1, v2, x30_41, v4, v5, v6], H40)) (
  (vBinV (.int .i64) .add v3 (.int .i64 1)).bind fun x30_43 =>
  some (none, [v0, v1, v2, x30_43, v4, v5, v6], r25.2))) (
  some (some 0, [v0, v4, v5, v6], H)) := by kernel_rfl
theorem impl_normalMail_eq (a0 : V) (H : VH) : cv id_impl_normalMail [a0] H =
  (aggNV 3 a0).bind fun c1 =>
  (pc id_slices_Clone___string_string_ [(frz H (strip (c1.getD 2 .nilp)))]).bind fun x10_7 =>
  (vOneV (strip (c1.getD 0 .nilp))).bind fun y9 =>
  (vOneV x10_7).bind fun y10 =>
  (stO (.ptr H.length 0) [y9, (.sl true []), y10] (H ++ [[(.str []), (.sl true []), (.sl true [])]])).bind fun H13 =>
  (vLenVV (strip (c1.getD 1 .nilp))).bind fun x14_16 =>
  (lpW' impl_normalMail_l3 [(.ptr H.length 0), (strip (c1.getD 1 .nilp)), x14_16, (.int .i64 0), (.str []), (.sl true []), (.sl true [])] H13).bind fun r45 =>
  inN r45.1 [
  gotV 4 r45.2.1 fun v46 =>
  (ldO globB true true 3 (v46 0) r45.2.2).bind fun r48 =>
  (aggNV 3 r48.1).bind fun c50 =>
  some ((.agg [(c50.getD 0 .nilp), (c50.getD 1 .nilp), (c50.getD 2 .nilp)]), r48.2)] := (callV_eq vb _ _ _ rfl).trans (by kernel_rfl)

/-! slices.Clone[[]string,string] : kind 2, moves [] -/
theorem slices_Clone___string_string__eq (a0 : V) (H : VH) : cv id_slices_Clone___string_string_ [a0] H =
  (vNilEqV .eql (strip a0)).bind fun x4_2 =>
  ifVV x4_2 (
  some ((.sl true []), H)) (
  (appV false 1 16 [] a0).bind fun x7_6 =>
  some (x7_6, H)) := (callV_eq vb _ _ _ rfl).trans (by kernel_rfl)

/-! slices.Contains[[]string,string] : kind 1, moves [] -/
theorem slices_Contains___string_string__eq (a0 a1 : V) (H : VH) : cv id_slices_Contains___string_string_ [a0, a1] H =
  (qc id_slices_Index___string_string_ [(frz H (strip a0)), (frz H a1)]).bind fun x7_3 =>
  (vBinV (.int .i64) .geq x7_3 (.int .i64 0)).bind fun x8_4 =>
  some (x8_4, H) := (callV_eq vb _ _ _ rfl).trans (by kernel_rfl)

/-! slices.Index[[]string,string] : kind 1, moves [] -/
noncomputable def slices_Index___string_string__l2 : List V → VH → Option (Option Nat × List V × VH) := roundV (vb.ctx cv lpW') (vb.b.ann 95) (vb.takes 95) ⟨⟨[0, 1, 7, 8], [], []⟩, [(.exit 0, ⟨[], [], []⟩), (.ret, ⟨[4], [], []⟩)]⟩ (loopIn Tryd.f95 2)
theorem slices_Index___string_string__l2_eq (v0 v1 v2 v3 : V) (H : VH) : slices_Index___string_string__l2 [v0, v1, v2, v3] H =
  (vBinV (.int .i64) .lss v3 v2).bind fun x9_4 =>
  ifVV x9_4 (
  (vIdxV 1 (strip v0) v3).bind fun x14_10 =>
  (ldO globB false false 1 x14_10 H).bind fun r12 =>
  (vBinV .str .eql v1 r12.1).bind fun x16_13 =>
  ifVV x16_13 (
  some (some 1, [(strip v3)], r12.2)) (
  (vBinV (.int .i64) .add (strip v3) (.int .i64 1)).bind fun x18_16 =>
  some (none, [v0, (strip v1), v2, x18_16], r12.2))) (
  some (some 0, [], H)) := by kernel_rfl
theorem slices_Index___string_string__eq (a0 a1 : V) (H : VH) : cv id_slices_Index___string_string_ [a0, a1] H =
  (vLenVV (strip a0)).bind fun x7_2 =>
  (lpW' slices_Index___string_string__l2 [a0, a1, x7_2, (.int .i64 0)] H).bind fun r18 =>
  inN r18.1 [
  gotV 0 r18.2.1 fun v19 =>
  some ((.int .i64 (-1)), r18.2.2),
  gotV 1 r18.2.1 fun v21 =>
  some ((v21 0), r18.2.2)] := (callV_eq vb _ _ _ rfl).trans (by kernel_rfl)

/-! loop.example/mailwire/impl.SplitMail$1 : kind 0, moves [] -/
theorem impl_SplitMail_1_eq (a0 a1 : V) (H : VH) : cv id_impl_SplitMail_1 [a0, a1] H =
  (aggNV 3 a0).bind fun c1 =>
  (vIdxV 1 (strip (c1.getD 1 .nilp)) (.int .i64 0)).bind fun x6_5 =>
  (ldO globB false false 1 x6_5 H).bind fun r7 =>
  (qc id_impl_domainOf [(frz r7.2 r7.1)]).bind fun x8_8 =>
  (ldO globB false false 1 a1 r7.2).bind fun r10 =>
  (qc id_impl_domainOf [(frz r10.2 r10.1)]).bind fun x10_11 =>
  (vBinV .str .eql x8_8 x10_11).bind fun x11_12 =>
  some (x11_12, r10.2) := (callV_eq vb _ _ _ rfl).trans (by kernel_rfl)

/-! loop.example/mailwire/impl.domainOf : kind 1, moves [] -/
theorem impl_domainOf_eq (a0 : V) (H : VH) : cv id_impl_domainOf [a0] H =
  (qc id_strings_Cut [(frz H a0), (frz H (.str [64]))]).bind fun x8_2 =>
  (vExtV x8_2 0).bind fun x9_4 =>
  (vExtV x8_2 1).bind fun x10_5 =>
  (vExtV x8_2 2).bind fun x11_6 =>
  some ((strip x10_5), H) := (callV_eq vb _ _ _ rfl).trans (by kernel_rfl)

/-! slices.IndexFunc[[]loop.example/mailwire/impl.Mail,loop.example/mailwire/impl.Mail] : kind 1, moves [] -/
noncomputable def slices_IndexFunc___impl_Mail_impl_Mail__l2 : List V → VH → Option (Option Nat × List V × VH) := roundV (vb.ctx cv lpW') (vb.b.ann 47) (vb.takes 47) ⟨⟨[0, 1, 7, 8], [], []⟩, [(.exit 0, ⟨[], [], []⟩), (.ret, ⟨[4], [], []⟩)]⟩ (loopIn Tryd.f47 2)
theorem slices_IndexFunc___impl_Mail_impl_Mail__l2_eq (v0 v1 v2 v3 : V) (H : VH) : slices_IndexFunc___impl_Mail_impl_Mail__l2 [v0, v1, v2, v3] H =
  (vBinV (.int .i64) .lss v3 v2).bind fun x9_4 =>
  ifVV x9_4 (
  (vIdxV 3 (strip v0) v3).bind fun x14_10 =>
  (ldO globB false true 3 x14_10 H).bind fun r12 =>
  (calleeV v1).bind fun p14 =>
  (qc p14.1 ((([r12.1] : List V) ++ p14.2).map (frz r12.2))).bind fun x16_13 =>
  ifVV x16_13 (
  some (some 1, [(strip v3)], r12.2)) (
  (vBinV (.int .i64) .add (strip v3) (.int .i64 1)).bind fun x18_17 =>
  some (none, [v0, (strip v1), v2, x18_17], r12.2))) (
  some (some 0, [], H)) := by kernel_rfl
theorem slices_IndexFunc___impl_Mail_impl_Mail__eq (a0 a1 : V) (H : VH) : cv id_slices_IndexFunc___impl_Mail_impl_Mail_ [a0, a1] H =
  (vLenVV (strip a0)).bind fun x7_2 =>
  (lpW' slices_IndexFunc___impl_Mail_impl_Mail__l2 [a0, a1, x7_2, (.int .i64 0)] H).bind fun r19 =>
  inN r19.1 [
  gotV 0 r19.2.1 fun v20 =>
  some ((.int .i64 (-1)), r19.2.2),
  gotV 1 r19.2.1 fun v22 =>
  some ((v22 0), r19.2.2)] := (callV_eq vb _ _ _ rfl).trans (by kernel_rfl)

/-! loop.example/mailwire/spec.SplitMail : kind 2, moves [0] -/
theorem spec_SplitMail_eq (a0 : V) (H : VH) : cv id_spec_SplitMail [a0] H =
  (aggNV 3 a0).bind fun c1 =>
  (cv id_spec_l11RawSplitMail [(.agg [(c1.getD 0 .nilp), (c1.getD 1 .nilp), (c1.getD 2 .nilp)])] H).bind fun r6 =>
  (vExtV r6.1 0).bind fun x9_8 =>
  (vExtV r6.1 1).bind fun x10_9 =>
  (pc id_spec_l13OwnListMail [(frz r6.2 (strip (strip (strip x9_8))))]).bind fun x12_13 =>
  some ((.tup [x12_13, (strip x10_9)]), r6.2) := (callV_eq vb _ _ _ rfl).trans (by kernel_rfl)

/-! loop.example/mailwire/spec.l11RawSplitMail : kind 0, moves [0] -/
noncomputable def spec_l11RawSplitMail_l14 : List V → VH → Option (Option Nat × List V × VH) := roundV (vb.ctx cv lpW') (vb.b.ann 50) (vb.takes 50) ⟨⟨[6, 7, 8, 9, 10, 11], [(4, (4, 0))], [(4, 3)]⟩, [(.exit 2, ⟨[6, 7, 8, 10], [(4, (4, 0))], [(4, 3)]⟩)]⟩ (loopIn Tryd.f50 14)
noncomputable def spec_l11RawSplitMail_l7 : List V → VH → Option (Option Nat × List V × VH) := roundV (vb.ctx cv lpW') (vb.b.ann 50) (vb.takes 50) ⟨⟨[6, 7, 8], [(4, (4, 0))], [(4, 3)]⟩, [(.exit 0, ⟨[6], [], []⟩)]⟩ (loopIn Tryd.f50 7)
theorem spec_l11RawSplitMail_l14_eq (v0 v1 v2 v3 v4 v5 v6 v7 v8 : V) (H : VH) : spec_l11RawSplitMail_l14 [v0, v1, v2, v3, v4, v5, v6, v7, v8] H =
  (vLenVV (strip v7)).bind fun x52_63 =>
  (vBinV (.int .i64) .lss v5 x52_63).bind fun x53_64 =>
  ifVV x53_64 (
  (id (
  (vIdxV 1 (strip v7) (strip v5)).bind fun x59_68 =>
  (ldO globB false false 1 x59_68 H).bind fun r70 =>
  (qc id_spec_l11Domain [(frz r70.2 r70.1)]).bind fun x61_71 =>
  (vBinV .str .eql x61_71 v3).bind fun x63_73 =>
  ifVV x63_73 (
  (vOffV v4 1).bind fun x64_74 =>
  (ldO globB true false 1 x64_74 r70.2).bind fun r76 =>
  (vIdxV 1 (strip v7) (strip (strip v5))).bind fun x69_80 =>
  (ldO globB false false 1 x69_80 r76.2).bind fun r82 =>
  (vOneV r82.1).bind fun y84 =>
  (ownV r76.1).bind fun s86 =>
  (appV false 1 16 s86 (.sl true [[y84]])).bind fun x72_85 =>
  (vOffV v4 1).bind fun x73_87 =>
  (vOneV x72_85).bind fun y89 =>
  (stO x73_87 [y89] r82.2).bind fun H90 =>
  some (0, [v0, v1, v2, (strip v3), v4, (strip (strip (strip v5))), v6, v7, v8], H90)) (
  some (0, [v0, v1, v2, (strip v3), v4, (strip (strip v5)), v6, v7, v8], r70.2)) : Option (Nat × List V × VH))).bind fun r91 =>
  inN r91.1 [
  gotV 9 r91.2.1 fun v92 =>
  (vBinV (.int .i64) .add (v92 5) (.int .i64 1)).bind fun x55_94 =>
  some (none, [(v92 0), (v92 1), (v92 2), (v92 3), (v92 4), x55_94, (v92 6), (v92 7), (v92 8)], r91.2.2)]) (
  some (some 0, [v0, v1, v2, v4, v6, v7, v8], H)) := by kernel_rfl
theorem spec_l11RawSplitMail_l7_eq (v0 v1 v2 v3 v4 v5 : V) (H : VH) : spec_l11RawSplitMail_l7 [v0, v1, v2, v3, v4, v5] H =
  (vLenVV (strip v4)).bind fun x25_27 =>
  (vBinV (.int .i64) .lss v2 x25_27).bind fun x26_28 =>
  ifVV x26_28 (
  (id (
  (vIdxV 1 (strip v4) (strip v2)).bind fun x32_32 =>
  (ldO globB false false 1 x32_32 H).bind fun r34 =>
  (qc id_spec_l11Domain [(frz r34.2 r34.1)]).bind fun x34_35 =>
  (qc id_spec_l11Has [(frz r34.2 (strip v1)), (frz r34.2 x34_35)]).bind fun x37_39 =>
  ifVV x37_39 (
  some (0, [v0, v1, (strip (strip v2)), v3, v4, v5], r34.2)) (
  (vOneV (strip x34_35)).bind fun y43 =>
  (ownV v1).bind fun s45 =>
  (appV false 1 16 s45 (.sl true [[y43]])).bind fun x41_44 =>
  (appV false 1 16 [] v5).bind fun x47_52 =>
  (vOneV (strip v3)).bind fun y54 =>
  (vOneV x47_52).bind fun y55 =>
  (stO (.ptr r34.2.length 0) [y54, (.sl true []), y55] (r34.2 ++ [[(.str []), (.sl true []), (.sl true [])]])).bind fun H58 =>
  (lpW' spec_l11RawSplitMail_l14 [v0, x41_44, (strip (strip v2)), (strip (strip x34_35)), (.ptr r34.2.length 0), (.int .i64 0), v3, v4, (strip v5)] H58).bind fun r96 =>
  inN r96.1 [
  gotV 7 r96.2.1 fun v97 =>
  (ldO globB true true 3 (v97 3) r96.2.2).bind fun r100 =>
  (aggNV 3 r100.1).bind fun c102 =>
  (ownV (v97 0)).bind fun s104 =>
  (appV false 3 64 s104 (.sl true [[(c102.getD 0 .nilp), (c102.getD 1 .nilp), (c102.getD 2 .nilp)]])).bind fun x77_103 =>
  some (0, [x77_103, (v97 1), (v97 2), (v97 4), (v97 5), (v97 6)], r100.2)]) : Option (Nat × List V × VH))).bind fun r106 =>
  inN r106.1 [
  gotV 6 r106.2.1 fun v107 =>
  (vBinV (.int .i64) .add (v107 2) (.int .i64 1)).bind fun x28_109 =>
  some (none, [(v107 0), (v107 1), x28_109, (v107 3), (v107 4), (v107 5)], r106.2.2)]) (
  some (some 0, [v0], H)) := by kernel_rfl
theorem spec_l11RawSplitMail_eq (a0 : V) (H : VH) : cv id_spec_l11RawSplitMail [a0] H =
  (aggNV 3 a0).bind fun c1 =>
  (cv id_spec_NormalMail [(.agg [(c1.getD 0 .nilp), (c1.getD 1 .nilp), (c1.getD 2 .nilp)])] H).bind fun r6 =>
  (vExtV r6.1 0).bind fun x15_8 =>
  (vExtV (stripAt 0 r6.1) 1).bind fun x16_9 =>
  (aggNV 3 x15_8).bind fun c12 =>
  (vUnV .not (strip x16_9)).bind fun x19_17 =>
  ifVV x19_17 (
  some ((.tup [(.sl true []), (.bool false)]), r6.2)) (
  (lpW' spec_l11RawSplitMail_l7 [(.sl true []), (.sl true []), (.int .i64 0), (c12.getD 0 .nilp), (c12.getD 1 .nilp), (c12.getD 2 .nilp)] r6.2).bind fun r111 =>
  inN r111.1 [
  gotV 1 r111.2.1 fun v112 =>
  some ((.tup [(v112 0), (.bool true)]), r111.2.2)]) := (callV_eq vb _ _ _ rfl).trans (by kernel_rfl)

/-! loop.example/mailwire/spec.NormalMail : kind 0, moves [0] -/
noncomputable def spec_NormalMail_l5 : List V → VH → Option (Option Nat × List V × VH) := roundV (vb.ctx cv lpW') (vb.b.ann 74) (vb.takes 74) ⟨⟨[4, 5], [(1, (1, 0)), (2, (2, 0))], [(1, 3), (2, 3)]⟩, [(.exit 0, ⟨[4], [(2, (2, 0))], [(2, 3)]⟩)]⟩ (loopIn Tryd.f74 5)
theorem spec_NormalMail_l5_eq (v0 v1 v2 v3 v4 v5 v6 v7 : V) (H : VH) : spec_NormalMail_l5 [v0, v1, v2, v3, v4, v5, v6, v7] H =
  (vLenVV (strip v3)).bind fun x20_26 =>
  (vBinV (.int .i64) .lss v1 x20_26).bind fun x21_27 =>
  ifVV x21_27 (
  (id (
  (vOffV v0 1).bind fun x24_28 =>
  (ldO globB false false 1 x24_28 H).bind fun r30 =>
  (vIdxV 1 (strip v3) (strip v1)).bind fun x29_34 =>
  (ldO globB false false 1 x29_34 r30.2).bind fun r36 =>
  (qc id_spec_l11Has [(frz r36.2 r30.1), (frz r36.2 r36.1)]).bind fun x31_37 =>
  (vUnV .not x31_37).bind fun x32_38 =>
  ifVV x32_38 (
  (vOffV v0 1).bind fun x33_39 =>
  (ldO globB true false 1 x33_39 r36.2).bind fun r41 =>
  (vIdxV 1 (strip v3) (strip (strip v1))).bind fun x38_45 =>
  (ldO globB false false 1 x38_45 r41.2).bind fun r47 =>
  (vOneV r47.1).bind fun y49 =>
  (ownV r41.1).bind fun s51 =>
  (appV false 1 16 s51 (.sl true [[y49]])).bind fun x41_50 =>
  (vOffV v0 1).bind fun x42_52 =>
  (vOneV x41_50).bind fun y54 =>
  (stO x42_52 [y54] r47.2).bind fun H55 =>
  some (0, [v0, (strip (strip (strip v1))), v2, v3, v4, v5, v6, v7], H55)) (
  some (0, [v0, (strip (strip v1)), v2, v3, v4, v5, v6, v7], r36.2)) : Option (Nat × List V × VH))).bind fun r56 =>
  inN r56.1 [
  gotV 8 r56.2.1 fun v57 =>
  (vBinV (.int .i64) .add (v57 1) (.int .i64 1)).bind fun x23_59 =>
  some (none, [(v57 0), x23_59, (v57 2), (v57 3), (v57 4), (v57 5), (v57 6), (v57 7)], r56.2.2)]) (
  some (some 0, [v0, v5, v6, v7], H)) := by kernel_rfl
theorem spec_NormalMail_eq (a0 : V) (H : VH) : cv id_spec_NormalMail [a0] H =
  (aggNV 3 a0).bind fun c1 =>
  (qc id_spec_MailValid [(frz H (.agg [(strip (c1.getD 0 .nilp)), (strip (c1.getD 1 .nilp)), (strip (c1.getD 2 .nilp))]))]).bind fun x7_5 =>
  (vUnV .not x7_5).bind fun x8_6 =>
  ifVV x8_6 (
  some ((.tup [(.agg [(.str []), (.sl true []), (.sl true [])]), (.bool false)]), H)) (
  (appV false 1 16 [] (c1.getD 2 .nilp)).bind fun x15_15 =>
  (vOneV (strip (c1.getD 0 .nilp))).bind fun y17 =>
  (vOneV x15_15).bind fun y18 =>
  (stO (.ptr H.length 0) [y17, (.sl true []), y18] (H ++ [[(.str []), (.sl true []), (.sl true [])]])).bind fun H21 =>
  (lpW' spec_NormalMail_l5 [(.ptr H.length 0), (.int .i64 0), (c1.getD 0 .nilp), (c1.getD 1 .nilp), (strip (c1.getD 2 .nilp)), (.str []), (.sl true []), (.sl true [])] H21).bind fun r61 =>
  inN r61.1 [
  gotV 4 r61.2.1 fun v62 =>
  (ldO globB true true 3 (v62 0) r61.2.2).bind fun r64 =>
  (aggNV 3 r64.1).bind fun c66 =>
  some ((.tup [(.agg [(c66.getD 0 .nilp), (c66.getD 1 .nilp), (c66.getD 2 .nilp)]), (.bool true)]), r64.2)]) := (callV_eq vb _ _ _ rfl).trans (by kernel_rfl)

/-! loop.example/mailwire/spec.MailValid : kind 1, moves [] -/
theorem spec_MailValid_eq (a0 : V) (H : VH) : cv id_spec_MailValid [a0] H =
  (aggNV 3 a0).bind fun c1 =>
  (qc id_spec_l10Draft [(frz H (.agg [(strip (c1.getD 0 .nilp)), (strip (c1.getD 1 .nilp)), (strip (c1.getD 2 .nilp))]))]).bind fun x4_4 =>
  ifGV x4_4 (
  (vLenVV (strip (c1.getD 1 .nilp))).bind fun x8_8 =>
  (vBinV (.int .i64) .gtr x8_8 (.int .i64 0)).bind fun x9_9 =>
  ifGV x9_9 (
  (vLenVV (strip (c1.getD 2 .nilp))).bind fun x14_14 =>
  (vBinV (.int .i64) .leq x14_14 (.int .i64 30)).bind fun x15_15 =>
  some (x15_15, H)) (
  some ((.bool false), H))) (
  some ((.bool false), H)) := (callV_eq vb _ _ _ rfl).trans (by kernel_rfl)

/-! loop.example/mailwire/spec.l10Draft : kind 1, moves [] -/
noncomputable def spec_l10Draft_l4 : List V → VH → Option (Option Nat × List V × VH) := roundV (vb.ctx cv lpW') (vb.b.ann 64) (vb.takes 64) ⟨⟨[3], [(1, (1, 0))], [(1, 3)]⟩, [(.exit 0, ⟨[], [(1, (1, 0))], [(1, 3)]⟩), (.ret, ⟨[2], [], []⟩)]⟩ (loopIn Tryd.f64 4)
noncomputable def spec_l10Draft_l9 : List V → VH → Option (Option Nat × List V × VH) := roundV (vb.ctx cv lpW') (vb.b.ann 64) (vb.takes 64) ⟨⟨[4], [(1, (1, 0))], [(1, 3)]⟩, [(.exit 2, ⟨[], [], []⟩), (.ret, ⟨[2], [], []⟩)]⟩ (loopIn Tryd.f64 9)
theorem spec_l10Draft_l4_eq (v0 v1 v2 v3 : V) (H : VH) : spec_l10Draft_l4 [v0, v1, v2, v3] H =
  (vLenVV (strip v2)).bind fun x29_54 =>
  (vBinV (.int .i64) .lss v0 x29_54).bind fun x30_55 =>
  ifVV x30_55 (
  (vIdxV 1 (strip v2) (strip v0)).bind fun x36_59 =>
  (ldO globB false false 1 x36_59 H).bind fun r61 =>
  (qc id_spec_l10Box [(frz r61.2 r61.1)]).bind fun x38_62 =>
  (vUnV .not x38_62).bind fun x39_63 =>
  ifVV x39_63 (
  some (some 1, [(.bool false)], r61.2)) (
  (vBinV (.int .i64) .add (strip (strip v0)) (.int .i64 1)).bind fun x32_66 =>
  some (none, [x32_66, v1, v2, v3], r61.2))) (
  some (some 0, [v1, v2, v3], H)) := by kernel_rfl
theorem spec_l10Draft_l9_eq (v0 v1 v2 v3 : V) (H : VH) : spec_l10Draft_l9 [v0, v1, v2, v3] H =
  (vLenVV (strip v3)).bind fun x43_74 =>
  (vBinV (.int .i64) .lss v0 x43_74).bind fun x44_75 =>
  ifVV x44_75 (
  (vIdxV 1 (strip v3) (strip v0)).bind fun x50_79 =>
  (ldO globB false false 1 x50_79 H).bind fun r81 =>
  (qc id_spec_TextValid [(frz r81.2 r81.1)]).bind fun x52_82 =>
  (vUnV .not x52_82).bind fun x53_83 =>
  ifVV x53_83 (
  some (some 1, [(.bool false)], r81.2)) (
  (vBinV (.int .i64) .add (strip (strip v0)) (.int .i64 1)).bind fun x46_86 =>
  some (none, [x46_86, v1, v2, v3], r81.2))) (
  some (some 0, [], H)) := by kernel_rfl
theorem spec_l10Draft_eq (a0 : V) (H : VH) : cv id_spec_l10Draft [a0] H =
  (aggNV 3 a0).bind fun c1 =>
  (id (
  (vBinV .str .neq (strip (c1.getD 0 .nilp)) (.str [])).bind fun x7_5 =>
  ifGV x7_5 (
  (qc id_spec_l10Box [(frz H (strip (c1.getD 0 .nilp)))]).bind fun x11_9 =>
  (vUnV .not x11_9).bind fun x12_10 =>
  ifGV x12_10 (
  some (0, [(.bool false)], H)) (
  (vLenVV (strip (c1.getD 1 .nilp))).bind fun x17_19 =>
  (vBinV (.int .i64) .gtr x17_19 (.int .i64 10)).bind fun x18_20 =>
  ifGV x18_20 (
  some (0, [(.bool false)], H)) (
  (vLenVV (strip (c1.getD 2 .nilp))).bind fun x23_27 =>
  (vBinV (.int .i64) .gtr x23_27 (.int .i64 31)).bind fun x24_28 =>
  ifVV x24_28 (
  some (0, [(.bool false)], H)) (
  some (1, [(c1.getD 0 .nilp), (c1.getD 1 .nilp), (c1.getD 2 .nilp)], H))))) (
  (vLenVV (strip (c1.getD 1 .nilp))).bind fun x17_35 =>
  (vBinV (.int .i64) .gtr x17_35 (.int .i64 10)).bind fun x18_36 =>
  ifGV x18_36 (
  some (0, [(.bool false)], H)) (
  (vLenVV (strip (c1.getD 2 .nilp))).bind fun x23_43 =>
  (vBinV (.int .i64) .gtr x23_43 (.int .i64 31)).bind fun x24_44 =>
  ifVV x24_44 (
  some (0, [(.bool false)], H)) (
  some (1, [(c1.getD 0 .nilp), (c1.getD 1 .nilp), (c1.getD 2 .nilp)], H)))) : Option (Nat × List V × VH))).bind fun r47 =>
  inN r47.1 [
  gotV 1 r47.2.1 fun v48 =>
  some ((v48 0), r47.2.2),
  gotV 3 r47.2.1 fun v49 =>
  (lpW' spec_l10Draft_l4 [(.int .i64 0), (v49 0), (v49 1), (v49 2)] r47.2.2).bind fun r68 =>
  inN r68.1 [
  gotV 3 r68.2.1 fun v69 =>
  (lpW' spec_l10Draft_l9 [(.int .i64 0), (v69 0), (v69 1), (v69 2)] r68.2.2).bind fun r88 =>
  inN r88.1 [
  gotV 0 r88.2.1 fun v89 =>
  some ((.bool true), r88.2.2),
  gotV 1 r88.2.1 fun v91 =>
  some ((v91 0), r88.2.2)],
  gotV 1 r68.2.1 fun v92 =>
  some ((v92 0), r68.2.2)]] := (callV_eq vb _ _ _ rfl).trans (by kernel_rfl)

/-! loop.example/mailwire/spec.l10Box : kind 1, moves [] -/
theorem spec_l10Box_eq (a0 : V) (H : VH) : cv id_spec_l10Box [a0] H =
  (pc id_spec_l2Box [(frz H a0)]).bind fun x7_2 =>
  (vExtV x7_2 0).bind fun x8_4 =>
  (vExtV x7_2 1).bind fun x9_5 =>
  (aggNV 3 (strip x8_4)).bind fun c8 =>
  ifGV (strip x9_5) (
  (vBinV .str .add (strip (c8.getD 1 .nilp)) (.str [64])).bind fun x14_14 =>
  (vBinV .str .add x14_14 (strip (c8.getD 2 .nilp))).bind fun x17_17 =>
  (vBinV .str .eql x17_17 (strip a0)).bind fun x19_19 =>
  some (x19_19, H)) (
  some ((.bool false), H)) := (callV_eq vb _ _ _ rfl).trans (by kernel_rfl)

/-! loop.example/mailwire/spec.l2Box : kind 2, moves [] -/
theorem spec_l2Box_eq (a0 : V) (H : VH) : cv id_spec_l2Box [a0] H =
  (qc id_spec_l2Cut [(frz H a0), (frz H (.int .u8 64))]).bind fun x10_3 =>
  (vExtV x10_3 0).bind fun x11_5 =>
  (vExtV x10_3 1).bind fun x12_6 =>
  (vExtV x10_3 2).bind fun x13_7 =>
  (qc id_spec_LowerText [(frz H (strip x12_6))]).bind fun x16_13 =>
  (vOneV (strip x11_5)).bind fun y15 =>
  (vOneV x16_13).bind fun y16 =>
  ifGV (strip x13_7) (
  (qc id_spec_AddressValid [(frz H (.agg [(.str []), (strip y15), (strip y16)]))]).bind fun x22_23 =>
  some ((.tup [(.agg [(.str []), (strip y15), (strip y16)]), x22_23]), H)) (
  some ((.tup [(.agg [(.str []), (strip y15), (strip y16)]), (.bool false)]), H)) := (callV_eq vb _ _ _ rfl).trans (by kernel_rfl)

/-! loop.example/mailwire/spec.l2Cut : kind 1, moves [] -/
noncomputable def spec_l2Cut_l2 : List V → VH → Option (Option Nat × List V × VH) := roundV (vb.ctx cv lpW') (vb.b.ann 89) (vb.takes 89) ⟨⟨[0, 1, 7], [], []⟩, [(.exit 0, ⟨[0], [], []⟩), (.ret, ⟨[4, 5, 6], [], []⟩)]⟩ (loopIn Tryd.f89 2)
theorem spec_l2Cut_l2_eq (v0 v1 v2 : V) (H : VH) : spec_l2Cut_l2 [v0, v1, v2] H =
  (vLenSV v0).bind fun x12_6 =>
  (vBinV (.int .i64) .lss v2 x12_6).bind fun x13_7 =>
  ifVV x13_7 (
  (vIndexSV (strip v0) (strip v2)).bind fun x16_10 =>
  (vBinV (.int .u8) .eql x16_10 (.int .u8 34)).bind fun x17_11 =>
  ifVV x17_11 (
  (qc id_spec_l1Read [(frz H (strip (strip v0))), (frz H (strip (strip v2)))]).bind fun x21_14 =>
  (vExtV x21_14 0).bind fun x22_16 =>
  (vExtV x21_14 1).bind fun x23_17 =>
  (vBinV (.int .i64) .lss (strip x23_17) (.int .i64 0)).bind fun x25_21 =>
  ifVV x25_21 (
  some (some 1, [(strip (strip (strip v0))), (.str []), (.bool false)], H)) (
  some (none, [(strip (strip (strip v0))), v1, (strip (strip x23_17))], H))) (
  (vIndexSV (strip (strip v0)) (strip (strip v2))).bind fun x30_30 =>
  (vBinV (.int .u8) .eql x30_30 v1).bind fun x32_32 =>
  ifVV x32_32 (
  (vSliceSV (strip (strip (strip v0))) none (some (strip (strip (strip v2))))).bind fun x35_35 =>
  (vBinV (.int .i64) .add (strip (strip (strip (strip v2)))) (.int .i64 1)).bind fun x38_38 =>
  (vSliceSV (strip (strip (strip (strip v0)))) (some x38_38) none).bind fun x39_39 =>
  some (some 1, [x35_35, x39_39, (.bool true)], H)) (
  (vBinV (.int .i64) .add (strip (strip (strip v2))) (.int .i64 1)).bind fun x41_44 =>
  some (none, [(strip (strip (strip v0))), (strip v1), x41_44], H)))) (
  some (some 0, [(strip v0)], H)) := by kernel_rfl
theorem spec_l2Cut_eq (a0 a1 : V) (H : VH) : cv id_spec_l2Cut [a0, a1] H =
  (lpW' spec_l2Cut_l2 [a0, a1, (.int .i64 0)] H).bind fun r46 =>
  inN r46.1 [
  gotV 1 r46.2.1 fun v47 =>
  some ((.tup [(v47 0), (.str []), (.bool false)]), r46.2.2),
  gotV 3 r46.2.1 fun v52 =>
  some ((.tup [(v52 0), (v52 1), (v52 2)]), r46.2.2)] := (callV_eq vb _ _ _ rfl).trans (by kernel_rfl)

/-! loop.example/mailwire/spec.l1Read : kind 1, moves [] -/
noncomputable def spec_l1Read_l3 : List V → VH → Option (Option Nat × List V × VH) := roundV (vb.ctx cv lpW') (vb.b.ann 105) (vb.takes 105) ⟨⟨[0, 6, 7], [], []⟩, [(.exit 0, ⟨[], [], []⟩), (.ret, ⟨[4, 5], [], []⟩)]⟩ (loopIn Tryd.f105 3)
theorem spec_l1Read_l3_eq (v0 v1 v2 : V) (H : VH) : spec_l1Read_l3 [v0, v1, v2] H =
  (vLenSV v0).bind fun x12_8 =>
  (vBinV (.int .i64) .lss v2 x12_8).bind fun x13_9 =>
  ifVV x13_9 (
  (id (
  (vIndexSV (strip v0) (strip v2)).bind fun x18_12 =>
  (vBinV (.int .u8) .eql x18_12 (.int .u8 34)).bind fun x19_13 =>
  ifVV x19_13 (
  (vBinV (.int .i64) .add (strip (strip v2)) (.int .i64 1)).bind fun x22_16 =>
  some (0, [v1, x22_16], H)) (
  (id (
  (vIndexSV (strip (strip v0)) (strip (strip v2))).bind fun x25_21 =>
  (vBinV (.int .u8) .eql x25_21 (.int .u8 92)).bind fun x26_22 =>
  ifVV x26_22 (
  (vBinV (.int .i64) .add (strip (strip (strip v2))) (.int .i64 1)).bind fun x28_24 =>
  (vLenSV (strip (strip (strip v0)))).bind fun x31_28 =>
  (vBinV (.int .i64) .eql x28_24 x31_28).bind fun x32_29 =>
  ifVV x32_29 (
  some (0, [(.str []), (.int .i64 (-1))], H)) (
  some (1, [(strip (strip (strip (strip v0)))), v1, (strip x28_24)], H))) (
  some (1, [(strip (strip (strip v0))), v1, (strip (strip (strip v2)))], H)) : Option (Nat × List V × VH))).bind fun r32 =>
  inN r32.1 [
  gotV 2 r32.2.1 fun v33 =>
  some (0, [(v33 0), (v33 1)], r32.2.2),
  gotV 3 r32.2.1 fun v34 =>
  (vBinV (.int .i64) .add (strip (v34 2)) (.int .i64 1)).bind fun x37_39 =>
  (vSliceSV (v34 0) (some (v34 2)) (some x37_39)).bind fun x38_40 =>
  (vBinV .str .add (v34 1) x38_40).bind fun x39_41 =>
  some (1, [(strip (v34 0)), x39_41, (strip (strip (v34 2)))], r32.2.2)]) : Option (Nat × List V × VH))).bind fun r43 =>
  inN r43.1 [
  gotV 2 r43.2.1 fun v44 =>
  some (some 1, [(v44 0), (v44 1)], r43.2.2),
  gotV 3 r43.2.1 fun v45 =>
  (vBinV (.int .i64) .add (v45 2) (.int .i64 1)).bind fun x15_47 =>
  some (none, [(v45 0), (v45 1), x15_47], r43.2.2)]) (
  some (some 0, [], H)) := by kernel_rfl
theorem spec_l1Read_eq (a0 a1 : V) (H : VH) : cv id_spec_l1Read [a0, a1] H =
  (vBinV (.int .i64) .add a1 (.int .i64 1)).bind fun x9_4 =>
  (lpW' spec_l1Read_l3 [a0, (.str []), x9_4] H).bind fun r49 =>
  inN r49.1 [
  gotV 0 r49.2.1 fun v50 =>
  some ((.tup [(.str []), (.int .i64 (-1))]), r49.2.2),
  gotV 2 r49.2.1 fun v53 =>
  some ((.tup [(v53 0), (v53 1)]), r49.2.2)] := (callV_eq vb _ _ _ rfl).trans (by kernel_rfl)

/-! loop.example/mailwire/spec.LowerText : kind 1, moves [] -/
noncomputable def spec_LowerText_l3 : List V → VH → Option (Option Nat × List V × VH) := roundV (vb.ctx cv lpW') (vb.b.ann 90) (vb.takes 90) ⟨⟨[3, 4], [], []⟩, [(.exit 0, ⟨[3], [], []⟩)]⟩ (loopIn Tryd.f90 3)
theorem spec_LowerText_l3_eq (v0 v1 : V) (H : VH) : spec_LowerText_l3 [v0, v1] H =
  (vLenVV (strip v0)).bind fun x9_7 =>
  (vBinV (.int .i64) .lss v1 x9_7).bind fun x10_8 =>
  ifVV x10_8 (
  (id (
  (vIdxV 1 (strip v0) (strip v1)).bind fun x15_11 =>
  (ldO globB false false 1 x15_11 H).bind fun r13 =>
  (vBinV (.int .u8) .geq r13.1 (.int .u8 65)).bind fun x17_14 =>
  ifGV x17_14 (
  (vIdxV 1 (strip v0) (strip (strip v1))).bind fun x21_18 =>
  (ldO globB false false 1 x21_18 r13.2).bind fun r20 =>
  (vBinV (.int .u8) .leq r20.1 (.int .u8 90)).bind fun x23_21 =>
  ifVV x23_21 (
  (vIdxV 1 (strip v0) (strip (strip (strip (strip v1))))).bind fun x29_27 =>
  (ldO globB false false 1 x29_27 r20.2).bind fun r29 =>
  (vBinV (.int .u8) .add r29.1 (.int .u8 32)).bind fun x31_30 =>
  (vIdxV 1 (strip v0) (strip (strip (strip v1)))).bind fun x32_31 =>
  (vOneV x31_30).bind fun y33 =>
  (stO x32_31 [y33] r29.2).bind fun H34 =>
  some (0, [v0, (strip (strip (strip (strip (strip v1)))))], H34)) (
  some (0, [v0, (strip (strip (strip v1)))], r20.2))) (
  some (0, [v0, (strip (strip v1))], r13.2)) : Option (Nat × List V × VH))).bind fun r36 =>
  inN r36.1 [
  gotV 2 r36.2.1 fun v37 =>
  (vBinV (.int .i64) .add (v37 1) (.int .i64 1)).bind fun x12_39 =>
  some (none, [(v37 0), x12_39], r36.2.2)]) (
  some (some 0, [v0], H)) := by kernel_rfl
theorem spec_LowerText_eq (a0 : V) (H : VH) : cv id_spec_LowerText [a0] H =
  (s2bV a0).bind fun x6_2 =>
  (lpW' spec_LowerText_l3 [(.obs H.length 0 x6_2.length 1), (.int .i64 0)] (H ++ [x6_2])).bind fun r41 =>
  inN r41.1 [
  gotV 1 r41.2.1 fun v42 =>
  (b2sV (strip (v42 0)) r41.2.2).bind fun x34_44 =>
  some (x34_44, r41.2.2)] := (callV_eq vb _ _ _ rfl).trans (by kernel_rfl)

/-! loop.example/mailwire/spec.AddressValid : kind 1, moves [] -/
theorem spec_AddressValid_eq (a0 : V) (H : VH) : cv id_spec_AddressValid [a0] H =
  (aggNV 3 a0).bind fun c1 =>
  (qc id_spec_l2Name [(frz H (strip (c1.getD 0 .nilp)))]).bind fun x5_5 =>
  ifGV x5_5 (
  (vLenSV (strip (c1.getD 1 .nilp))).bind fun x9_9 =>
  (vBinV (.int .i64) .leq x9_9 (.int .i64 30)).bind fun x10_10 =>
  ifGV x10_10 (
  (qc id_spec_l2Local [(frz H (strip (c1.getD 1 .nilp)))]).bind fun x15_15 =>
  ifGV x15_15 (
  (vLenSV (strip (c1.getD 2 .nilp))).bind fun x20_20 =>
  (vBinV (.int .i64) .leq x20_20 (.int .i64 40)).bind fun x21_21 =>
  ifGV x21_21 (
  (qc id_spec_l2Domain [(frz H (strip (c1.getD 2 .nilp)))]).bind fun x26_26 =>
  some (x26_26, H)) (
  some ((.bool false), H))) (
  some ((.bool false), H))) (
  some ((.bool false), H))) (
  some ((.bool false), H)) := (callV_eq vb _ _ _ rfl).trans (by kernel_rfl)

/-! loop.example/mailwire/spec.l2Name : kind 1, moves [] -/
theorem spec_l2Name_eq (a0 : V) (H : VH) : cv id_spec_l2Name [a0] H =
  (qc id_spec_TextValid [(frz H a0)]).bind fun x4_2 =>
  ifGV x4_2 (
  (vLenSV (strip a0)).bind fun x7_5 =>
  (vBinV (.int .i64) .leq x7_5 (.int .i64 40)).bind fun x8_6 =>
  some (x8_6, H)) (
  some ((.bool false), H)) := (callV_eq vb _ _ _ rfl).trans (by kernel_rfl)

/-! loop.example/mailwire/spec.TextValid : kind 1, moves [] -/
noncomputable def spec_TextValid_l2 : List V → VH → Option (Option Nat × List V × VH) := roundV (vb.ctx cv lpW') (vb.b.ann 92) (vb.takes 92) ⟨⟨[0, 3], [], []⟩, [(.exit 0, ⟨[0], [], []⟩), (.ret, ⟨[2], [], []⟩)]⟩ (loopIn Tryd.f92 2)
theorem spec_TextValid_l2_eq (v0 v1 : V) (H : VH) : spec_TextValid_l2 [v0, v1] H =
  (id (
  (vLenSV v0).bind fun x6_4 =>
  (vBinV (.int .i64) .lss v1 x6_4).bind fun x7_5 =>
  ifGV x7_5 (
  (vBinV (.int .i64) .leq (strip v1) (.int .i64 200)).bind fun x10_8 =>
  ifVV x10_8 (
  some (0, [(strip v0), (strip (strip v1))], H)) (
  some (1, [(strip v0)], H))) (
  some (1, [(strip v0)], H)) : Option (Nat × List V × VH))).bind fun r11 =>
  inN r11.1 [
  gotV 2 r11.2.1 fun v12 =>
  (id (
  (vIndexSV (v12 0) (v12 1)).bind fun x16_15 =>
  (vBinV (.int .u8) .lss x16_15 (.int .u8 32)).bind fun x17_16 =>
  ifGV x17_16 (
  some (0, [(.bool false)], r11.2.2)) (
  (vIndexSV (strip (v12 0)) (strip (v12 1))).bind fun x21_22 =>
  (vBinV (.int .u8) .gtr x21_22 (.int .u8 126)).bind fun x22_23 =>
  ifVV x22_23 (
  some (0, [(.bool false)], r11.2.2)) (
  some (1, [(strip (strip (v12 0))), (strip (strip (v12 1)))], r11.2.2))) : Option (Nat × List V × VH))).bind fun r26 =>
  inN r26.1 [
  gotV 1 r26.2.1 fun v27 =>
  some (some 1, [(v27 0)], r26.2.2),
  gotV 2 r26.2.1 fun v28 =>
  (vBinV (.int .i64) .add (v28 1) (.int .i64 1)).bind fun x13_30 =>
  some (none, [(v28 0), x13_30], r26.2.2)],
  gotV 1 r11.2.1 fun v32 =>
  some (some 0, [(v32 0)], r11.2.2)] := by kernel_rfl
theorem spec_TextValid_eq (a0 : V) (H : VH) : cv id_spec_TextValid [a0] H =
  (lpW' spec_TextValid_l2 [a0, (.int .i64 0)] H).bind fun r33 =>
  inN r33.1 [
  gotV 1 r33.2.1 fun v34 =>
  (vLenSV (v34 0)).bind fun x25_36 =>
  (vBinV (.int .i64) .leq x25_36 (.int .i64 200)).bind fun x26_37 =>
  some (x26_37, r33.2.2),
  gotV 1 r33.2.1 fun v39 =>
  some ((v39 0), r33.2.2)] := (callV_eq vb _ _ _ rfl).trans (by kernel_rfl)

/-! loop.example/mailwire/spec.l2Local : kind 1, moves [] -/
noncomputable def spec_l2Local_l3 : List V → VH → Option (Option Nat × List V × VH) := roundV (vb.ctx cv lpW') (vb.b.ann 107) (vb.takes 107) ⟨⟨[0, 3, 4], [], []⟩, [(.exit 0, ⟨[0], [], []⟩), (.ret, ⟨[2], [], []⟩)]⟩ (loopIn Tryd.f107 3)
theorem spec_l2Local_l3_eq (v0 v1 v2 : V) (H : VH) : spec_l2Local_l3 [v0, v1, v2] H =
  (vLenVV (strip v1)).bind fun x9_7 =>
  (vBinV (.int .i64) .lss v2 x9_7).bind fun x10_8 =>
  ifVV x10_8 (
  (vIdxV 1 (strip v1) (strip v2)).bind fun x15_11 =>
  (ldO globB false false 1 x15_11 H).bind fun r13 =>
  (qc id_spec_AtomValid [(frz r13.2 r13.1)]).bind fun x17_14 =>
  (vUnV .not x17_14).bind fun x18_15 =>
  ifVV x18_15 (
  some (some 1, [(.bool false)], r13.2)) (
  (vBinV (.int .i64) .add (strip (strip v2)) (.int .i64 1)).bind fun x12_18 =>
  some (none, [v0, v1, x12_18], r13.2))) (
  some (some 0, [v0], H)) := by kernel_rfl
theorem spec_l2Local_eq (a0 : V) (H : VH) : cv id_spec_l2Local [a0] H =
  (pc id_spec_l2Parts [(frz H a0), (frz H (.int .u8 46))]).bind fun x6_2 =>
  (lpW' spec_l2Local_l3 [(strip a0), (strip x6_2), (.int .i64 0)] H).bind fun r20 =>
  inN r20.1 [
  gotV 1 r20.2.1 fun v21 =>
  (vLenSV (v21 0)).bind fun x20_23 =>
  (vBinV (.int .i64) .leq x20_23 (.int .i64 30)).bind fun x21_24 =>
  some (x21_24, r20.2.2),
  gotV 1 r20.2.1 fun v26 =>
  some ((v26 0), r20.2.2)] := (callV_eq vb _ _ _ rfl).trans (by kernel_rfl)

/-! loop.example/mailwire/spec.l2Parts : kind 2, moves [] -/
noncomputable def spec_l2Parts_l4 : List V → VH → Option (Option Nat × List V × VH) := roundV (vb.ctx cv lpW') (vb.b.ann 117) (vb.takes 117) ⟨⟨[0, 1, 5, 6, 7], [], []⟩, [(.exit 0, ⟨[0, 5, 6], [], []⟩)]⟩ (loopIn Tryd.f117 4)
theorem spec_l2Parts_l4_eq (v0 v1 v2 v3 v4 : V) (H : VH) : spec_l2Parts_l4 [v0, v1, v2, v3, v4] H =
  (vLenSV v0).bind fun x11_7 =>
  (vBinV (.int .i64) .lss v4 x11_7).bind fun x12_8 =>
  ifVV x12_8 (
  (id (
  (vIndexSV (strip v0) (strip v4)).bind fun x17_11 =>
  (vBinV (.int .u8) .eql x17_11 v1).bind fun x19_13 =>
  ifVV x19_13 (
  (vSliceSV (strip (strip v0)) (some v3) (some (strip (strip v4)))).bind fun x24_18 =>
  (vOneV x24_18).bind fun y20 =>
  (ownV v2).bind fun s22 =>
  (appV false 1 16 s22 (.sl true [[y20]])).bind fun x26_21 =>
  (vBinV (.int .i64) .add (strip (strip (strip v4))) (.int .i64 1)).bind fun x28_25 =>
  some (0, [(strip (strip (strip v0))), (strip v1), x26_21, x28_25, (strip (strip (strip (strip v4))))], H)) (
  some (0, [(strip (strip v0)), (strip v1), v2, v3, (strip (strip v4))], H)) : Option (Nat × List V × VH))).bind fun r27 =>
  inN r27.1 [
  gotV 5 r27.2.1 fun v28 =>
  (vBinV (.int .i64) .add (v28 4) (.int .i64 1)).bind fun x14_30 =>
  some (none, [(v28 0), (v28 1), (v28 2), (v28 3), x14_30], r27.2.2)]) (
  some (some 0, [(strip v0), v2, v3], H)) := by kernel_rfl
theorem spec_l2Parts_eq (a0 a1 : V) (H : VH) : cv id_spec_l2Parts [a0, a1] H =
  (lpW' spec_l2Parts_l4 [a0, a1, (.sl true []), (.int .i64 0), (.int .i64 0)] H).bind fun r32 =>
  inN r32.1 [
  gotV 3 r32.2.1 fun v33 =>
  (vSliceSV (v33 0) (some (v33 2)) none).bind fun x32_37 =>
  (vOneV x32_37).bind fun y39 =>
  (ownV (v33 1)).bind fun s41 =>
  (appV false 1 16 s41 (.sl true [[y39]])).bind fun x34_40 =>
  some (x34_40, r32.2.2)] := (callV_eq vb _ _ _ rfl).trans (by kernel_rfl)

/-! loop.example/mailwire/spec.AtomValid : kind 1, moves [] -/
noncomputable def spec_AtomValid_l2 : List V → VH → Option (Option Nat × List V × VH) := roundV (vb.ctx cv lpW') (vb.b.ann 118) (vb.takes 118) ⟨⟨[0, 3], [], []⟩, [(.exit 0, ⟨[0], [], []⟩), (.ret, ⟨[2], [], []⟩)]⟩ (loopIn Tryd.f118 2)
theorem spec_AtomValid_l2_eq (v0 v1 : V) (H : VH) : spec_AtomValid_l2 [v0, v1] H =
  (id (
  (vLenSV v0).bind fun x6_4 =>
  (vBinV (.int .i64) .lss v1 x6_4).bind fun x7_5 =>
  ifGV x7_5 (
  (vBinV (.int .i64) .leq (strip v1) (.int .i64 40)).bind fun x10_8 =>
  ifVV x10_8 (
  some (0, [(strip v0), (strip (strip v1))], H)) (
  some (1, [(strip v0)], H))) (
  some (1, [(strip v0)], H)) : Option (Nat × List V × VH))).bind fun r11 =>
  inN r11.1 [
  gotV 2 r11.2.1 fun v12 =>
  (vIndexSV (v12 0) (v12 1)).bind fun x16_15 =>
  (qc id_spec_l1Atom [(frz r11.2.2 x16_15)]).bind fun x17_16 =>
  (vUnV .not x17_16).bind fun x18_17 =>
  ifVV x18_17 (
  some (some 1, [(.bool false)], r11.2.2)) (
  (vBinV (.int .i64) .add (strip (v12 1)) (.int .i64 1)).bind fun x13_20 =>
  some (none, [(strip (v12 0)), x13_20], r11.2.2)),
  gotV 1 r11.2.1 fun v22 =>
  some (some 0, [(v22 0)], r11.2.2)] := by kernel_rfl
theorem spec_AtomValid_eq (a0 : V) (H : VH) : cv id_spec_AtomValid [a0] H =
  (lpW' spec_AtomValid_l2 [a0, (.int .i64 0)] H).bind fun r23 =>
  inN r23.1 [
  gotV 1 r23.2.1 fun v24 =>
  (vLenSV (v24 0)).bind fun x20_26 =>
  (vBinV (.int .i64) .geq x20_26 (.int .i64 1)).bind fun x21_27 =>
  ifGV x21_27 (
  (vLenSV (strip (v24 0))).bind fun x24_30 =>
  (vBinV (.int .i64) .leq x24_30 (.int .i64 40)).bind fun x25_31 =>
  some (x25_31, r23.2.2)) (
  some ((.bool false), r23.2.2)),
  gotV 1 r23.2.1 fun v36 =>
  some ((v36 0), r23.2.2)] := (callV_eq vb _ _ _ rfl).trans (by kernel_rfl)

/-! loop.example/mailwire/spec.l1Atom : kind 1, moves [] -/
noncomputable def spec_l1Atom_l2 : List V → VH → Option (Option Nat × List V × VH) := roundV (vb.ctx cv lpW') (vb.b.ann 125) (vb.takes 125) ⟨⟨[0, 3], [], []⟩, [(.exit 0, ⟨[0], [], []⟩), (.ret, ⟨[2], [], []⟩)]⟩ (loopIn Tryd.f125 2)
theorem spec_l1Atom_l2_eq (v0 v1 : V) (H : VH) : spec_l1Atom_l2 [v0, v1] H =
  (vBinV (.int .i64) .lss v1 (.int .i64 19)).bind fun x5_3 =>
  ifVV x5_3 (
  (vIndexSV (.str [33, 35, 36, 37, 38, 39, 42, 43, 45, 47, 61, 63, 94, 95, 96, 123, 124, 125, 126]) (strip v1)).bind fun x10_6 =>
  (vBinV (.int .u8) .eql v0 x10_6).bind fun x11_7 =>
  ifVV x11_7 (
  some (some 1, [(.bool true)], H)) (
  (vBinV (.int .i64) .add (strip (strip v1)) (.int .i64 1)).bind fun x7_10 =>
  some (none, [(strip v0), x7_10], H))) (
  some (some 0, [v0], H)) := by kernel_rfl
theorem spec_l1Atom_eq (a0 : V) (H : VH) : cv id_spec_l1Atom [a0] H =
  (lpW' spec_l1Atom_l2 [a0, (.int .i64 0)] H).bind fun r12 =>
  inN r12.1 [
  gotV 1 r12.2.1 fun v13 =>
  (qc id_spec_l1Letter [(frz r12.2.2 (v13 0))]).bind fun x13_15 =>
  some (x13_15, r12.2.2),
  gotV 1 r12.2.1 fun v17 =>
  some ((v17 0), r12.2.2)] := (callV_eq vb _ _ _ rfl).trans (by kernel_rfl)

/-! loop.example/mailwire/spec.l1Letter : kind 1, moves [] -/
theorem spec_l1Letter_eq (a0 : V) (H : VH) : cv id_spec_l1Letter [a0] H =
  (vBinV (.int .u8) .geq a0 (.int .u8 97)).bind fun x4_2 =>
  ifGV x4_2 (
  (vBinV (.int .u8) .leq (strip a0) (.int .u8 122)).bind fun x7_5 =>
  ifGV x7_5 (
  some ((.bool true), H)) (
  (vBinV (.int .u8) .geq (strip (strip a0)) (.int .u8 65)).bind fun x11_13 =>
  ifGV x11_13 (
  (vBinV (.int .u8) .leq (strip (strip (strip a0))) (.int .u8 90)).bind fun x14_16 =>
  ifGV x14_16 (
  some ((.bool true), H)) (
  (vBinV (.int .u8) .geq (strip (strip (strip (strip a0)))) (.int .u8 48)).bind fun x19_23 =>
  ifGV x19_23 (
  (vBinV (.int .u8) .leq (strip (strip (strip (strip (strip a0))))) (.int .u8 57)).bind fun x22_26 =>
  some (x22_26, H)) (
  some ((.bool false), H)))) (
  (vBinV (.int .u8) .geq (strip (strip (strip a0))) (.int .u8 48)).bind fun x19_37 =>
  ifGV x19_37 (
  (vBinV (.int .u8) .leq (strip (strip (strip (strip a0)))) (.int .u8 57)).bind fun x22_40 =>
  some (x22_40, H)) (
  some ((.bool false), H))))) (
  (vBinV (.int .u8) .geq (strip a0) (.int .u8 65)).bind fun x11_50 =>
  ifGV x11_50 (
  (vBinV (.int .u8) .leq (strip (strip a0)) (.int .u8 90)).bind fun x14_53 =>
  ifGV x14_53 (
  some ((.bool true), H)) (
  (vBinV (.int .u8) .geq (strip (strip (strip a0))) (.int .u8 48)).bind fun x19_60 =>
  ifGV x19_60 (
  (vBinV (.int .u8) .leq (strip (strip (strip (strip a0)))) (.int .u8 57)).bind fun x22_63 =>
  some (x22_63, H)) (
  some ((.bool false), H)))) (
  (vBinV (.int .u8) .geq (strip (strip a0)) (.int .u8 48)).bind fun x19_74 =>
  ifGV x19_74 (
  (vBinV (.int .u8) .leq (strip (strip (strip a0))) (.int .u8 57)).bind fun x22_77 =>
  some (x22_77, H)) (
  some ((.bool false), H)))) := (callV_eq vb _ _ _ rfl).trans (by kernel_rfl)

/-! loop.example/mailwire/spec.l2Domain : kind 1, moves [] -/
noncomputable def spec_l2Domain_l9 : List V → VH → Option (Option Nat × List V × VH) := roundV (vb.ctx cv lpW') (vb.b.ann 108) (vb.takes 108) ⟨⟨[0, 3, 4, 5, 6], [], []⟩, [(.exit 2, ⟨[0, 3, 4], [], []⟩), (.ret, ⟨[2], [], []⟩)]⟩ (loopIn Tryd.f108 9)
noncomputable def spec_l2Domain_l3 : List V → VH → Option (Option Nat × List V × VH) := roundV (vb.ctx cv lpW') (vb.b.ann 108) (vb.takes 108) ⟨⟨[0, 3, 4], [], []⟩, [(.exit 0, ⟨[0], [], []⟩), (.ret, ⟨[2], [], []⟩)]⟩ (loopIn Tryd.f108 3)
theorem spec_l2Domain_l9_eq (v0 v1 v2 v3 v4 : V) (H : VH) : spec_l2Domain_l9 [v0, v1, v2, v3, v4] H =
  (vLenSV v3).bind fun x36_43 =>
  (vBinV (.int .i64) .lss v4 x36_43).bind fun x37_44 =>
  ifVV x37_44 (
  (id (
  (vIndexSV (strip v3) (strip v4)).bind fun x42_47 =>
  (qc id_spec_l1Letter [(frz H x42_47)]).bind fun x43_48 =>
  (vUnV .not x43_48).bind fun x44_49 =>
  ifGV x44_49 (
  (vIndexSV (strip (strip v3)) (strip (strip v4))).bind fun x48_53 =>
  (vBinV (.int .u8) .neq x48_53 (.int .u8 45)).bind fun x49_54 =>
  ifGV x49_54 (
  some (0, [(.bool false)], H)) (
  (vIndexSV (strip (strip (strip v3))) (strip (strip (strip v4)))).bind fun x54_61 =>
  (vBinV (.int .u8) .geq x54_61 (.int .u8 65)).bind fun x55_62 =>
  ifGV x55_62 (
  (vIndexSV (strip (strip (strip (strip v3)))) (strip (strip (strip (strip v4))))).bind fun x59_66 =>
  (vBinV (.int .u8) .leq x59_66 (.int .u8 90)).bind fun x60_67 =>
  ifVV x60_67 (
  some (0, [(.bool false)], H)) (
  some (1, [v0, v1, v2, (strip (strip (strip (strip (strip v3))))), (strip (strip (strip (strip (strip v4)))))], H))) (
  some (1, [v0, v1, v2, (strip (strip (strip (strip v3)))), (strip (strip (strip (strip v4))))], H)))) (
  (vIndexSV (strip (strip v3)) (strip (strip v4))).bind fun x54_77 =>
  (vBinV (.int .u8) .geq x54_77 (.int .u8 65)).bind fun x55_78 =>
  ifGV x55_78 (
  (vIndexSV (strip (strip (strip v3))) (strip (strip (strip v4)))).bind fun x59_82 =>
  (vBinV (.int .u8) .leq x59_82 (.int .u8 90)).bind fun x60_83 =>
  ifVV x60_83 (
  some (0, [(.bool false)], H)) (
  some (1, [v0, v1, v2, (strip (strip (strip (strip v3)))), (strip (strip (strip (strip v4))))], H))) (
  some (1, [v0, v1, v2, (strip (strip (strip v3))), (strip (strip (strip v4)))], H))) : Option (Nat × List V × VH))).bind fun r89 =>
  inN r89.1 [
  gotV 1 r89.2.1 fun v90 =>
  some (some 1, [(v90 0)], r89.2.2),
  gotV 5 r89.2.1 fun v91 =>
  (vBinV (.int .i64) .add (v91 4) (.int .i64 1)).bind fun x39_93 =>
  some (none, [(v91 0), (v91 1), (v91 2), (v91 3), x39_93], r89.2.2)]) (
  some (some 0, [v0, v1, v2], H)) := by kernel_rfl
theorem spec_l2Domain_l3_eq (v0 v1 v2 : V) (H : VH) : spec_l2Domain_l3 [v0, v1, v2] H =
  (vLenVV (strip v1)).bind fun x11_7 =>
  (vBinV (.int .i64) .lss v2 x11_7).bind fun x12_8 =>
  ifVV x12_8 (
  (id (
  (vIdxV 1 (strip v1) (strip v2)).bind fun x17_11 =>
  (ldO globB false false 1 x17_11 H).bind fun r13 =>
  (id (
  (vBinV .str .eql r13.1 (.str [])).bind fun x20_16 =>
  ifGV x20_16 (
  some (0, [(.bool false)], r13.2)) (
  (vIndexSV (strip r13.1) (.int .i64 0)).bind fun x23_23 =>
  (vBinV (.int .u8) .eql x23_23 (.int .u8 45)).bind fun x24_24 =>
  ifGV x24_24 (
  some (0, [(.bool false)], r13.2)) (
  (vLenSV (strip (strip (strip r13.1)))).bind fun x29_31 =>
  (vBinV (.int .i64) .sub x29_31 (.int .i64 1)).bind fun x30_32 =>
  (vIndexSV (strip (strip r13.1)) x30_32).bind fun x31_33 =>
  (vBinV (.int .u8) .eql x31_33 (.int .u8 45)).bind fun x32_34 =>
  ifVV x32_34 (
  some (0, [(.bool false)], r13.2)) (
  some (1, [v0, v1, (strip (strip v2)), (strip (strip (strip (strip r13.1))))], r13.2)))) : Option (Nat × List V × VH))).bind fun r37 =>
  inN r37.1 [
  gotV 1 r37.2.1 fun v38 =>
  some (0, [(v38 0)], r37.2.2),
  gotV 4 r37.2.1 fun v39 =>
  (lpW' spec_l2Domain_l9 [(v39 0), (v39 1), (v39 2), (v39 3), (.int .i64 0)] r37.2.2).bind fun r95 =>
  inN r95.1 [
  gotV 3 r95.2.1 fun v96 =>
  some (1, [(v96 0), (v96 1), (v96 2)], r95.2.2),
  gotV 1 r95.2.1 fun v97 =>
  some (0, [(v97 0)], r95.2.2)]] : Option (Nat × List V × VH))).bind fun r98 =>
  inN r98.1 [
  gotV 1 r98.2.1 fun v99 =>
  some (some 1, [(v99 0)], r98.2.2),
  gotV 3 r98.2.1 fun v100 =>
  (vBinV (.int .i64) .add (v100 2) (.int .i64 1)).bind fun x14_102 =>
  some (none, [(v100 0), (v100 1), x14_102], r98.2.2)]) (
  some (some 0, [v0], H)) := by kernel_rfl
theorem spec_l2Domain_eq (a0 : V) (H : VH) : cv id_spec_l2Domain [a0] H =
  (pc id_spec_l2Parts [(frz H a0), (frz H (.int .u8 46))]).bind fun x8_2 =>
  (lpW' spec_l2Domain_l3 [(strip a0), (strip x8_2), (.int .i64 0)] H).bind fun r104 =>
  inN r104.1 [
  gotV 1 r104.2.1 fun v105 =>
  (vLenSV (v105 0)).bind fun x64_107 =>
  (vBinV (.int .i64) .leq x64_107 (.int .i64 40)).bind fun x65_108 =>
  some (x65_108, r104.2.2),
  gotV 1 r104.2.1 fun v110 =>
  some ((v110 0), r104.2.2)] := (callV_eq vb _ _ _ rfl).trans (by kernel_rfl)

/-! loop.example/mailwire/spec.l11Has : kind 1, moves [] -/
noncomputable def spec_l11Has_l2 : List V → VH → Option (Option Nat × List V × VH) := roundV (vb.ctx cv lpW') (vb.b.ann 76) (vb.takes 76) ⟨⟨[0, 1, 5], [], []⟩, [(.exit 0, ⟨[], [], []⟩), (.ret, ⟨[4], [], []⟩)]⟩ (loopIn Tryd.f76 2)
theorem spec_l11Has_l2_eq (v0 v1 v2 : V) (H : VH) : spec_l11Has_l2 [v0, v1, v2] H =
  (vLenVV (strip v0)).bind fun x8_4 =>
  (vBinV (.int .i64) .lss v2 x8_4).bind fun x9_5 =>
  ifVV x9_5 (
  (vIdxV 1 (strip v0) (strip v2)).bind fun x14_8 =>
  (ldO globB false false 1 x14_8 H).bind fun r10 =>
  (vBinV .str .eql r10.1 v1).bind fun x17_12 =>
  ifVV x17_12 (
  some (some 1, [(.bool true)], r10.2)) (
  (vBinV (.int .i64) .add (strip (strip v2)) (.int .i64 1)).bind fun x11_15 =>
  some (none, [v0, (strip v1), x11_15], r10.2))) (
  some (some 0, [], H)) := by kernel_rfl
theorem spec_l11Has_eq (a0 a1 : V) (H : VH) : cv id_spec_l11Has [a0, a1] H =
  (lpW' spec_l11Has_l2 [a0, a1, (.int .i64 0)] H).bind fun r17 =>
  inN r17.1 [
  gotV 0 r17.2.1 fun v18 =>
  some ((.bool false), r17.2.2),
  gotV 1 r17.2.1 fun v20 =>
  some ((v20 0), r17.2.2)] := (callV_eq vb _ _ _ rfl).trans (by kernel_rfl)

/-! loop.example/mailwire/spec.l11Domain : kind 1, moves [] -/
theorem spec_l11Domain_eq (a0 : V) (H : VH) : cv id_spec_l11Domain [a0] H =
  (qc id_spec_l2Cut [(frz H a0), (frz H (.int .u8 64))]).bind fun x8_2 =>
  (vExtV x8_2 0).bind fun x9_4 =>
  (vExtV x8_2 1).bind fun x10_5 =>
  (vExtV x8_2 2).bind fun x11_6 =>
  some ((strip x10_5), H) := (callV_eq vb _ _ _ rfl).trans (by kernel_rfl)

/-! loop.example/mailwire/spec.l13OwnListMail : kind 2, moves [] -/
noncomputable def spec_l13OwnListMail_l3 : List V → VH → Option (Option Nat × List V × VH) := roundV (vb.ctx cv lpW') (vb.b.ann 51) (vb.takes 51) ⟨⟨[3, 7, 8, 9], [], []⟩, [(.exit 0, ⟨[3], [], []⟩)]⟩ (loopIn Tryd.f51 3)
theorem spec_l13OwnListMail_l3_eq (v0 v1 v2 v3 : V) (H : VH) : spec_l13OwnListMail_l3 [v0, v1, v2, v3] H =
  (vBinV (.int .i64) .lss v3 v2).bind fun x10_6 =>
  ifVV x10_6 (
  (vIdxV 3 v1 v3).bind fun x11_7 =>
  (ldO globB false true 3 x11_7 H).bind fun r9 =>
  (aggNV 3 r9.1).bind fun c12 =>
  (pc id_spec_l13OwnMail [(frz r9.2 (.agg [(strip (c12.getD 0 .nilp)), (strip (c12.getD 1 .nilp)), (strip (c12.getD 2 .nilp))]))]).bind fun x15_15 =>
  (aggNV 3 x15_15).bind fun c17 =>
  (ownV v0).bind fun s19 =>
  (appV false 3 64 s19 (.sl true [[(c17.getD 0 .nilp), (c17.getD 1 .nilp), (c17.getD 2 .nilp)]])).bind fun x17_18 =>
  (vBinV (.int .i64) .add v3 (.int .i64 1)).bind fun x18_21 =>
  some (none, [x17_18, v1, v2, x18_21], r9.2)) (
  some (some 0, [v0], H)) := by kernel_rfl
theorem spec_l13OwnListMail_eq (a0 : V) (H : VH) : cv id_spec_l13OwnListMail [a0] H =
  (vLenVV (strip a0)).bind fun x8_4 =>
  (lpW' spec_l13OwnListMail_l3 [(.sl true []), (strip a0), x8_4, (.int .i64 0)] H).bind fun r23 =>
  inN r23.1 [
  gotV 1 r23.2.1 fun v24 =>
  some ((v24 0), r23.2.2)] := (callV_eq vb _ _ _ rfl).trans (by kernel_rfl)

/-! loop.example/mailwire/spec.l13OwnMail : kind 2, moves [] -/
theorem spec_l13OwnMail_eq (a0 : V) (H : VH) : cv id_spec_l13OwnMail [a0] H =
  (aggNV 3 a0).bind fun c1 =>
  (appV false 1 16 [] (c1.getD 1 .nilp)).bind fun x6_6 =>
  (vOneV x6_6).bind fun y9 =>
  (appV false 1 16 [] (c1.getD 2 .nilp)).bind fun x11_13 =>
  (vOneV x11_13).bind fun y16 =>
  some ((.agg [(c1.getD 0 .nilp), y9, y16]), H) := (callV_eq vb _ _ _ rfl).trans (by kernel_rfl)

/-! loop.example/mailwire/impl.NormalMail : kind 0, moves [0] -/
theorem impl_NormalMail_eq (a0 : V) (H : VH) : cv id_impl_NormalMail [a0] H =
  (aggNV 3 a0).bind fun c1 =>
  (qc id_impl_MailValid [(frz H (.agg [(strip (c1.getD 0 .nilp)), (strip (c1.getD 1 .nilp)), (strip (c1.getD 2 .nilp))]))]).bind fun x5_5 =>
  (vUnV .not x5_5).bind fun x6_6 =>
  ifVV x6_6 (
  some ((.tup [(.agg [(.str []), (.sl true []), (.sl true [])]), (.bool false)]), H)) (
  (cv id_impl_normalMail [(.agg [(c1.getD 0 .nilp), (c1.getD 1 .nilp), (c1.getD 2 .nilp)])] H).bind fun r12 =>
  (aggNV 3 r12.1).bind fun c14 =>
  some ((.tup [(.agg [(c14.getD 0 .nilp), (c14.getD 1 .nilp), (c14.getD 2 .nilp)]), (.bool true)]), r12.2)) := (callV_eq vb _ _ _ rfl).trans (by kernel_rfl)

/-! loop.example/mailwire/impl.MailSame : kind 1, moves [] -/
theorem impl_MailSame_eq (a0 a1 : V) (H : VH) : cv id_impl_MailSame [a0, a1] H =
  (aggNV 3 a0).bind fun c1 =>
  (aggNV 3 a1).bind fun c3 =>
  (vBinV .str .eql (strip (c1.getD 0 .nilp)) (strip (c3.getD 0 .nilp))).bind fun x9_9 =>
  ifGV x9_9 (
  (qc id_slices_Equal___string_string_ [(frz H (strip (c1.getD 1 .nilp))), (frz H (strip (c3.getD 1 .nilp)))]).bind fun x15_15 =>
  ifGV x15_15 (
  (qc id_slices_Equal___string_string_ [(frz H (strip (c1.getD 2 .nilp))), (frz H (strip (c3.getD 2 .nilp)))]).bind fun x22_22 =>
  some (x22_22, H)) (
  some ((.bool false), H))) (
  some ((.bool false), H)) := (callV_eq vb _ _ _ rfl).trans (by kernel_rfl)

/-! slices.Equal[[]string,string] : kind 1, moves [] -/
noncomputable def slices_Equal___string_string__l4 : List V → VH → Option (Option Nat × List V × VH) := roundV (vb.ctx cv lpW') (vb.b.ann 52) (vb.takes 52) ⟨⟨[0, 1, 12, 13], [], []⟩, [(.exit 0, ⟨[], [], []⟩), (.ret, ⟨[4], [], []⟩)]⟩ (loopIn Tryd.f52 4)
theorem slices_Equal___string_string__l4_eq (v0 v1 v2 v3 : V) (H : VH) : slices_Equal___string_string__l4 [v0, v1, v2, v3] H =
  (vBinV (.int .i64) .lss v3 v2).bind fun x14_10 =>
  ifVV x14_10 (
  (vIdxV 1 (strip v0) v3).bind fun x18_15 =>
  (ldO globB false false 1 x18_15 H).bind fun r17 =>
  (vIdxV 1 (strip v1) (strip v3)).bind fun x22_20 =>
  (ldO globB false false 1 x22_20 r17.2).bind fun r22 =>
  (vBinV .str .neq r17.1 r22.1).bind fun x24_23 =>
  ifVV x24_23 (
  some (some 1, [(.bool false)], r22.2)) (
  (vBinV (.int .i64) .add (strip v3) (.int .i64 1)).bind fun x25_25 =>
  some (none, [v0, v1, v2, x25_25], r22.2))) (
  some (some 0, [], H)) := by kernel_rfl
theorem slices_Equal___string_string__eq (a0 a1 : V) (H : VH) : cv id_slices_Equal___string_string_ [a0, a1] H =
  (vLenVV (strip a0)).bind fun x7_2 =>
  (vLenVV (strip a1)).bind fun x9_4 =>
  (vBinV (.int .i64) .neq x7_2 x9_4).bind fun x10_5 =>
  ifVV x10_5 (
  some ((.bool false), H)) (
  (vLenVV (strip a0)).bind fun x12_8 =>
  (lpW' slices_Equal___string_string__l4 [a0, a1, x12_8, (.int .i64 0)] H).bind fun r27 =>
  inN r27.1 [
  gotV 0 r27.2.1 fun v28 =>
  some ((.bool true), r27.2.2),
  gotV 1 r27.2.1 fun v30 =>
  some ((v30 0), r27.2.2)]) := (callV_eq vb _ _ _ rfl).trans (by kernel_rfl)

/-! loop.example/mailwire/laws.mwTexts : kind 1, moves [] -/
noncomputable def laws_mwTexts_l4 : List V → VH → Option (Option Nat × List V × VH) := roundV (vb.ctx cv lpW') (vb.b.ann 25) (vb.takes 25) ⟨⟨[0, 1, 5], [], []⟩, [(.exit 0, ⟨[], [], []⟩), (.ret, ⟨[4], [], []⟩)]⟩ (loopIn Tryd.f25 4)
theorem laws_mwTexts_l4_eq (v0 v1 v2 : V) (H : VH) : laws_mwTexts_l4 [v0, v1, v2] H =
  (vLenVV (strip v0)).bind fun x13_10 =>
  (vBinV (.int .i64) .lss v2 x13_10).bind fun x14_11 =>
  ifVV x14_11 (
  (vIdxV 1 (strip v0) (strip v2)).bind fun x19_14 =>
  (ldO globB false false 1 x19_14 H).bind fun r16 =>
  (vIdxV 1 (strip v1) (strip (strip v2))).bind fun x23_19 =>
  (ldO globB false false 1 x23_19 r16.2).bind fun r21 =>
  (vBinV .str .neq r16.1 r21.1).bind fun x25_22 =>
  ifVV x25_22 (
  some (some 1, [(.bool false)], r21.2)) (
  (vBinV (.int .i64) .add (strip (strip (strip v2))) (.int .i64 1)).bind fun x16_25 =>
  some (none, [v0, v1, x16_25], r21.2))) (
  some (some 0, [], H)) := by kernel_rfl
theorem laws_mwTexts_eq (a0 a1 : V) (H : VH) : cv id_laws_mwTexts [a0, a1] H =
  (vLenVV (strip a0)).bind fun x7_2 =>
  (vLenVV (strip a1)).bind fun x9_4 =>
  (vBinV (.int .i64) .neq x7_2 x9_4).bind fun x10_5 =>
  ifVV x10_5 (
  some ((.bool false), H)) (
  (lpW' laws_mwTexts_l4 [a0, a1, (.int .i64 0)] H).bind fun r27 =>
  inN r27.1 [
  gotV 0 r27.2.1 fun v28 =>
  some ((.bool true), r27.2.2),
  gotV 1 r27.2.1 fun v30 =>
  some ((v30 0), r27.2.2)]) := (callV_eq vb _ _ _ rfl).trans (by kernel_rfl)

end Go.Proofs.YtjobinbeggkliaaDoor.Q
