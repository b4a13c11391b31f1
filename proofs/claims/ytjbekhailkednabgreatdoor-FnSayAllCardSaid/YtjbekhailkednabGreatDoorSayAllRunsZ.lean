/- What a call of each function comes to. -/
import Derived.Test.YtjbekhailkednabGreatDoorSayAllBaseZ
namespace Go.Proofs.YtjbekhailkednabGreatDoor.Q
open Go Go.AM Go.Proofs
set_option linter.unusedVariables false
set_option maxRecDepth 100000
/-! loop.example/mailwire/laws.FnSayAll : kind 1, moves [0] -/
theorem laws_FnSayAll_eq (a0 : V) (H : VH) : cv id_laws_FnSayAll [a0] H =
  (vLenVV (strip a0)).bind fun x19_2 =>
  (vBinV (.int .i64) .gtr x19_2 (.int .i64 1048576)).bind fun x20_3 =>
  ifVV x20_3 (
  some ((.bool true), H)) (
  (cv id_spec_DrawSayAll [a0] H).bind fun r7 =>
  (vExtV r7.1 0).bind fun x24_9 =>
  (vExtV (stripAt 0 r7.1) 1).bind fun x25_10 =>
  (aggNV 6 x24_9).bind fun c13 =>
  (pc id_impl_SayAll [(frz r7.2 (.agg [(strip (c13.getD 0 .nilp)), (strip (c13.getD 1 .nilp)), (strip (c13.getD 2 .nilp)), (strip (c13.getD 3 .nilp)), (strip (c13.getD 4 .nilp)), (strip (c13.getD 5 .nilp))])), (frz r7.2 (strip (strip (strip x25_10))))]).bind fun x29_17 =>
  (vExtV x29_17 0).bind fun x30_19 =>
  (vExtV x29_17 1).bind fun x31_20 =>
  (vExtV x29_17 2).bind fun x32_21 =>
  (aggNV 6 (strip x30_19)).bind fun c24 =>
  (cv id_spec_SayAll [(.agg [(c13.getD 0 .nilp), (c13.getD 1 .nilp), (c13.getD 2 .nilp), (c13.getD 3 .nilp), (c13.getD 4 .nilp), (c13.getD 5 .nilp)]), (strip (strip (strip (strip x25_10))))] r7.2).bind fun r30 =>
  (vExtV r30.1 0).bind fun x37_32 =>
  (vExtV r30.1 1).bind fun x38_33 =>
  (vExtV r30.1 2).bind fun x39_34 =>
  (aggNV 6 (strip x37_32)).bind fun c37 =>
  (id (
  (qc id_impl_SessionSame [(frz r30.2 (.agg [(strip (c24.getD 0 .nilp)), (strip (c24.getD 1 .nilp)), (strip (c24.getD 2 .nilp)), (strip (c24.getD 3 .nilp)), (strip (c24.getD 4 .nilp)), (strip (c24.getD 5 .nilp))])), (frz r30.2 (.agg [(strip (c37.getD 0 .nilp)), (strip (c37.getD 1 .nilp)), (strip (c37.getD 2 .nilp)), (strip (c37.getD 3 .nilp)), (strip (c37.getD 4 .nilp)), (strip (c37.getD 5 .nilp))]))]).bind fun x42_42 =>
  (vUnV .not x42_42).bind fun x43_43 =>
  ifGV x43_43 (
  (qc id_impl_SessionSame [(frz r30.2 (.agg [(strip (c24.getD 0 .nilp)), (strip (c24.getD 1 .nilp)), (strip (c24.getD 2 .nilp)), (strip (c24.getD 3 .nilp)), (strip (c24.getD 4 .nilp)), (strip (c24.getD 5 .nilp))])), (frz r30.2 (.agg [(strip (c37.getD 0 .nilp)), (strip (c37.getD 1 .nilp)), (strip (c37.getD 2 .nilp)), (strip (c37.getD 3 .nilp)), (strip (c37.getD 4 .nilp)), (strip (c37.getD 5 .nilp))]))]).bind fun x61_52 =>
  ifGV x61_52 (
  (qc id_laws_mwInts [(frz r30.2 (strip (strip (strip x31_20)))), (frz r30.2 (strip (strip (strip x38_33))))]).bind fun x65_56 =>
  ifGV x65_56 (
  (vBinV .bool .eql (strip x32_21) (strip x39_34)).bind fun x70_61 =>
  some (0, [x70_61], r30.2)) (
  some (0, [(.bool false)], r30.2))) (
  some (0, [(.bool false)], r30.2))) (
  (qc id_laws_mwInts [(frz r30.2 (strip (strip (strip x31_20)))), (frz r30.2 (strip (strip (strip x38_33))))]).bind fun x47_72 =>
  (vUnV .not x47_72).bind fun x48_73 =>
  ifGV x48_73 (
  (qc id_impl_SessionSame [(frz r30.2 (.agg [(strip (c24.getD 0 .nilp)), (strip (c24.getD 1 .nilp)), (strip (c24.getD 2 .nilp)), (strip (c24.getD 3 .nilp)), (strip (c24.getD 4 .nilp)), (strip (c24.getD 5 .nilp))])), (frz r30.2 (.agg [(strip (c37.getD 0 .nilp)), (strip (c37.getD 1 .nilp)), (strip (c37.getD 2 .nilp)), (strip (c37.getD 3 .nilp)), (strip (c37.getD 4 .nilp)), (strip (c37.getD 5 .nilp))]))]).bind fun x61_81 =>
  ifGV x61_81 (
  (qc id_laws_mwInts [(frz r30.2 (strip (strip (strip x31_20)))), (frz r30.2 (strip (strip (strip x38_33))))]).bind fun x65_85 =>
  ifGV x65_85 (
  (vBinV .bool .eql (strip x32_21) (strip x39_34)).bind fun x70_90 =>
  some (0, [x70_90], r30.2)) (
  some (0, [(.bool false)], r30.2))) (
  some (0, [(.bool false)], r30.2))) (
  (vBinV .bool .neq (strip x32_21) (strip x39_34)).bind fun x53_101 =>
  ifGV x53_101 (
  (qc id_impl_SessionSame [(frz r30.2 (.agg [(strip (c24.getD 0 .nilp)), (strip (c24.getD 1 .nilp)), (strip (c24.getD 2 .nilp)), (strip (c24.getD 3 .nilp)), (strip (c24.getD 4 .nilp)), (strip (c24.getD 5 .nilp))])), (frz r30.2 (.agg [(strip (c37.getD 0 .nilp)), (strip (c37.getD 1 .nilp)), (strip (c37.getD 2 .nilp)), (strip (c37.getD 3 .nilp)), (strip (c37.getD 4 .nilp)), (strip (c37.getD 5 .nilp))]))]).bind fun x61_107 =>
  ifGV x61_107 (
  (qc id_laws_mwInts [(frz r30.2 (strip (strip (strip x31_20)))), (frz r30.2 (strip (strip (strip x38_33))))]).bind fun x65_111 =>
  ifGV x65_111 (
  (vBinV .bool .eql (strip (strip x32_21)) (strip (strip x39_34))).bind fun x70_116 =>
  some (0, [x70_116], r30.2)) (
  some (0, [(.bool false)], r30.2))) (
  some (0, [(.bool false)], r30.2))) (
  (vUnV .not (strip (strip x32_21))).bind fun x57_126 =>
  ifVV x57_126 (
  (qc id_impl_SessionSame [(frz r30.2 (.agg [(strip (c24.getD 0 .nilp)), (strip (c24.getD 1 .nilp)), (strip (c24.getD 2 .nilp)), (strip (c24.getD 3 .nilp)), (strip (c24.getD 4 .nilp)), (strip (c24.getD 5 .nilp))])), (frz r30.2 (.agg [(strip (c37.getD 0 .nilp)), (strip (c37.getD 1 .nilp)), (strip (c37.getD 2 .nilp)), (strip (c37.getD 3 .nilp)), (strip (c37.getD 4 .nilp)), (strip (c37.getD 5 .nilp))]))]).bind fun x61_130 =>
  ifGV x61_130 (
  (qc id_laws_mwInts [(frz r30.2 (strip (strip (strip x31_20)))), (frz r30.2 (strip (strip (strip x38_33))))]).bind fun x65_134 =>
  ifGV x65_134 (
  (vBinV .bool .eql (strip (strip (strip x32_21))) (strip (strip x39_34))).bind fun x70_139 =>
  some (0, [x70_139], r30.2)) (
  some (0, [(.bool false)], r30.2))) (
  some (0, [(.bool false)], r30.2))) (
  some (1, [(strip (strip x25_10)), (strip (strip x31_20)), (strip (c13.getD 0 .nilp)), (strip (c13.getD 1 .nilp)), (strip (c13.getD 2 .nilp)), (strip (c13.getD 3 .nilp)), (strip (c13.getD 4 .nilp)), (strip (c13.getD 5 .nilp)), (c24.getD 0 .nilp), (c24.getD 1 .nilp), (c24.getD 2 .nilp), (c24.getD 3 .nilp), (c24.getD 4 .nilp), (c24.getD 5 .nilp)], r30.2))))) : Option (Nat × List V × VH))).bind fun r148 =>
  inN r148.1 [
  gotV 1 r148.2.1 fun v149 =>
  some ((v149 0), r148.2.2),
  gotV 14 r148.2.1 fun v150 =>
  (vLenVV (strip (v150 0))).bind fun x73_152 =>
  (vBinV (.int .i64) .quo x73_152 (.int .i64 2)).bind fun x74_153 =>
  (vSliceVV 1 (strip (v150 0)) none (some x74_153)).bind fun x79_158 =>
  (pc id_impl_SayAll [(frz r148.2.2 (.agg [(strip (v150 2)), (strip (v150 3)), (strip (v150 4)), (strip (v150 5)), (strip (v150 6)), (strip (v150 7))])), (frz r148.2.2 x79_158)]).bind fun x80_159 =>
  (vExtV x80_159 0).bind fun x81_161 =>
  (vExtV (stripAt 0 x80_159) 1).bind fun x82_162 =>
  (vExtV (stripAt 1 (stripAt 0 x80_159)) 2).bind fun x83_163 =>
  (aggNV 6 x81_161).bind fun c166 =>
  (stO (.ptr r148.2.2.length 0) [(c166.getD 0 .nilp), (c166.getD 1 .nilp), (c166.getD 2 .nilp), (c166.getD 3 .nilp), (c166.getD 4 .nilp), (c166.getD 5 .nilp)] (r148.2.2 ++ [[(.int .i64 0), (.str []), (.str []), (.sl true []), (.sl true []), (.sl true [])]])).bind fun H167 =>
  (ldO globB false true 6 (.ptr r148.2.2.length 0) H167).bind fun r171 =>
  (vSliceVV 1 (strip (v150 0)) (some (strip x74_153)) none).bind fun x88_174 =>
  (pc id_impl_SayAll [(frz r171.2 r171.1), (frz r171.2 x88_174)]).bind fun x89_175 =>
  (vExtV x89_175 0).bind fun x90_177 =>
  (vExtV (stripAt 0 x89_175) 1).bind fun x91_178 =>
  (vExtV (stripAt 1 (stripAt 0 x89_175)) 2).bind fun x92_179 =>
  (aggNV 6 x90_177).bind fun c182 =>
  (stO (.ptr r171.2.length 0) [(c182.getD 0 .nilp), (c182.getD 1 .nilp), (c182.getD 2 .nilp), (c182.getD 3 .nilp), (c182.getD 4 .nilp), (c182.getD 5 .nilp)] (r171.2 ++ [[(.int .i64 0), (.str []), (.str []), (.sl true []), (.sl true []), (.sl true [])]])).bind fun H183 =>
  ifGV (strip x83_163) (
  ifGV (strip x92_179) (
  (ldO globB false true 6 (.ptr r171.2.length 0) H183).bind fun r192 =>
  (qc id_impl_SessionSame [(frz r192.2 r192.1), (frz r192.2 (.agg [(strip (v150 8)), (strip (v150 9)), (strip (v150 10)), (strip (v150 11)), (strip (v150 12)), (strip (v150 13))]))]).bind fun x100_194 =>
  ifGV x100_194 (
  (appV false 1 8 [] x82_162).bind fun x105_199 =>
  (ownV x105_199).bind fun s202 =>
  (appV false 1 8 s202 x91_178).bind fun x107_201 =>
  (qc id_laws_mwInts [(frz r192.2 x107_201), (frz r192.2 (strip (v150 1)))]).bind fun x109_204 =>
  some (x109_204, r192.2)) (
  some ((.bool false), r192.2))) (
  some ((.bool false), H183))) (
  some ((.bool false), H183))]) := (callV_eq vb _ _ _ rfl).trans (by kernel_rfl)

/-! loop.example/mailwire/spec.DrawSayAll : kind 0, moves [0] -/
noncomputable def spec_DrawSayAll_l5 : List V → VH → Option (Option Nat × List V × VH) := roundV (vb.ctx cv lpW') (vb.b.ann 13) (vb.takes 13) ⟨⟨[4, 6, 7], [(2, (2, 0)), (5, (5, 0))], [(2, 6), (5, 6)]⟩, [(.exit 0, ⟨[6], [(2, (2, 0)), (5, (5, 0))], [(2, 6), (5, 6)]⟩)]⟩ (loopIn Tryz.f13 5)
theorem spec_DrawSayAll_l5_eq (v0 v1 v2 v3 v4 v5 v6 v7 v8 v9 v10 v11 v12 v13 v14 : V) (H : VH) : spec_DrawSayAll_l5 [v0, v1, v2, v3, v4, v5, v6, v7, v8, v9, v10, v11, v12, v13, v14] H =
  (vBinV (.int .i64) .gtr v2 (.int .i64 0)).bind fun x19_23 =>
  ifVV x19_23 (
  (cv id_spec_l10Line [(strip v0)] H).bind fun r27 =>
  (vOneV r27.1).bind fun y29 =>
  (ownV v1).bind fun s31 =>
  (appV false 1 16 s31 (.sl true [[y29]])).bind fun x26_30 =>
  (vBinV (.int .i64) .sub (strip v2) (.int .i64 1)).bind fun x21_34 =>
  some (none, [(strip v0), x26_30, x21_34, v3, v4, v5, v6, v7, v8, v9, v10, v11, v12, v13, v14], r27.2)) (
  some (some 0, [v1, v3, v4, v5, v6, v7, v8, v9, v10, v11, v12, v13, v14], H)) := by kernel_rfl
theorem spec_DrawSayAll_eq (a0 : V) (H : VH) : cv id_spec_DrawSayAll [a0] H =
  (cv id_spec_l13Open [a0] H).bind fun r4 =>
  (cv id_spec_l10Draw [(strip (strip r4.1))] r4.2).bind fun r9 =>
  (cv id_spec_l10Wrong [(strip r4.1), r9.1] r9.2).bind fun r11 =>
  (aggNV 6 r11.1).bind fun c14 =>
  (cv id_spec_l13Rd_num [(strip (strip (strip r4.1))), (.sl false (stripLL [[(.int .i64 3)], [(.int .i64 2)], [(.int .i64 5)], [(.int .i64 1)], [(.int .i64 0)]]))] r11.2).bind fun r20 =>
  (lpW' spec_DrawSayAll_l5 [(strip (strip (strip r4.1))), (.sl true []), r20.1, (.int .i64 0), (.str []), (.str []), (.sl true []), (.sl true []), (.sl true []), (c14.getD 0 .nilp), (c14.getD 1 .nilp), (c14.getD 2 .nilp), (c14.getD 3 .nilp), (c14.getD 4 .nilp), (c14.getD 5 .nilp)] r20.2).bind fun r36 =>
  inN r36.1 [
  gotV 13 r36.2.1 fun v37 =>
  some ((.tup [(.agg [(v37 7), (v37 8), (v37 9), (v37 10), (v37 11), (v37 12)]), (v37 0)]), r36.2.2)] := (callV_eq vb _ _ _ rfl).trans (by kernel_rfl)

/-! loop.example/mailwire/spec.l13Open : kind 0, moves [0] -/
theorem spec_l13Open_eq (a0 : V) (H : VH) : cv id_spec_l13Open [a0] H =
  (id (
  (vLenVV (strip a0)).bind fun x4_2 =>
  (vBinV (.int .i64) .gtr x4_2 (.int .i64 2000)).bind fun x5_3 =>
  ifVV x5_3 (
  (vSliceVV 1 (strip a0) none (some (.int .i64 2000))).bind fun x7_5 =>
  some (0, [x7_5], H)) (
  some (0, [a0], H)) : Option (Nat × List V × VH))).bind fun r7 =>
  inN r7.1 [
  gotV 1 r7.2.1 fun v8 =>
  (vOneV (v8 0)).bind fun y11 =>
  some ((.ptr r7.2.2.length 0), (r7.2.2 ++ [[y11, (.int .i64 0)]]))] := (callV_eq vb _ _ _ rfl).trans (by kernel_rfl)

/-! loop.example/mailwire/spec.l10Draw : kind 0, moves [] -/
noncomputable def spec_l10Draw_l5 : List V → VH → Option (Option Nat × List V × VH) := roundV (vb.ctx cv lpW') (vb.b.ann 20) (vb.takes 20) ⟨⟨[0, 4, 5, 6], [(2, (2, 0)), (3, (3, 0))], [(2, 6), (3, 6)]⟩, [(.exit 0, ⟨[0], [(2, (2, 0)), (3, (3, 0))], [(2, 6), (3, 6)]⟩)]⟩ (loopIn Tryz.f20 5)
noncomputable def spec_l10Draw_l9 : List V → VH → Option (Option Nat × List V × VH) := roundV (vb.ctx cv lpW') (vb.b.ann 20) (vb.takes 20) ⟨⟨[0, 7], [(2, (2, 0)), (3, (3, 0))], [(2, 6), (3, 6)]⟩, [(.exit 2, ⟨[], [(2, (2, 0)), (3, (3, 0))], [(2, 6), (3, 6)]⟩)]⟩ (loopIn Tryz.f20 9)
theorem spec_l10Draw_l5_eq (v0 v1 v2 v3 v4 v5 v6 v7 v8 v9 v10 v11 v12 v13 v14 v15 : V) (H : VH) : spec_l10Draw_l5 [v0, v1, v2, v3, v4, v5, v6, v7, v8, v9, v10, v11, v12, v13, v14, v15] H =
  (vBinV (.int .i64) .lss v3 v2).bind fun x18_14 =>
  ifVV x18_14 (
  (vIdxV 1 (strip v1) (strip v3)).bind fun x25_18 =>
  (ldO globB false false 1 x25_18 H).bind fun r20 =>
  (cv id_spec_SayLine [(.agg [v10, v11, v12, v13, v14, v15]), (strip r20.1)] r20.2).bind fun r22 =>
  (vExtV r22.1 0).bind fun x28_24 =>
  (vExtV (stripAt 0 r22.1) 1).bind fun x29_25 =>
  (vExtV (stripAt 0 r22.1) 2).bind fun x30_26 =>
  (aggNV 6 x28_24).bind fun c28 =>
  (vBinV (.int .i64) .add (strip (strip v3)) (.int .i64 1)).bind fun x20_30 =>
  some (none, [v0, v1, (strip v2), x20_30, v4, v5, v6, v7, v8, v9, (c28.getD 0 .nilp), (c28.getD 1 .nilp), (c28.getD 2 .nilp), (c28.getD 3 .nilp), (c28.getD 4 .nilp), (c28.getD 5 .nilp)], r22.2)) (
  some (some 0, [v0, v4, v5, v6, v7, v8, v9, v10, v11, v12, v13, v14, v15], H)) := by kernel_rfl
theorem spec_l10Draw_l9_eq (v0 v1 v2 v3 v4 v5 v6 v7 v8 v9 v10 v11 v12 v13 : V) (H : VH) : spec_l10Draw_l9 [v0, v1, v2, v3, v4, v5, v6, v7, v8, v9, v10, v11, v12, v13] H =
  (vBinV (.int .i64) .gtr v1 (.int .i64 0)).bind fun x34_39 =>
  ifVV x34_39 (
  (id (
  (cv id_spec_l10Line [(strip v0)] H).bind fun r43 =>
  (cv id_spec_SayLine [(.agg [v8, v9, v10, v11, v12, v13]), (strip r43.1)] r43.2).bind fun r45 =>
  (vExtV r45.1 0).bind fun x42_47 =>
  (vExtV (stripAt 0 r45.1) 1).bind fun x43_48 =>
  (vExtV (stripAt 0 r45.1) 2).bind fun x44_49 =>
  (aggNV 6 x42_47).bind fun c52 =>
  ifVV (strip x44_49) (
  some (0, [(strip v0), (strip v1), v2, v3, v4, v5, v6, v7, (c52.getD 0 .nilp), (c52.getD 1 .nilp), (c52.getD 2 .nilp), (c52.getD 3 .nilp), (c52.getD 4 .nilp), (c52.getD 5 .nilp)], r45.2)) (
  some (0, [(strip v0), (strip v1), v2, v3, v4, v5, v6, v7, (strip v8), (strip v9), (strip v10), (strip v11), (strip v12), (strip v13)], r45.2)) : Option (Nat × List V × VH))).bind fun r58 =>
  inN r58.1 [
  gotV 14 r58.2.1 fun v59 =>
  (vBinV (.int .i64) .sub (v59 1) (.int .i64 1)).bind fun x36_61 =>
  some (none, [(v59 0), x36_61, (v59 2), (v59 3), (v59 4), (v59 5), (v59 6), (v59 7), (v59 8), (v59 9), (v59 10), (v59 11), (v59 12), (v59 13)], r58.2.2)]) (
  some (some 0, [v2, v3, v4, v5, v6, v7, v8, v9, v10, v11, v12, v13], H)) := by kernel_rfl
theorem spec_l10Draw_eq (a0 : V) (H : VH) : cv id_spec_l10Draw [a0] H =
  (cv id_spec_l13Rd_num [(strip a0), (.sl false (stripLL [[(.int .i64 3)], [(.int .i64 1)], [(.int .i64 4)], [(.int .i64 2)], [(.int .i64 5)], [(.int .i64 6)], [(.int .i64 0)]]))] H).bind fun r9 =>
  (lpW' spec_l10Draw_l5 [(strip a0), (.sl false (stripLL [[(.str [72, 69, 76, 79, 32, 120, 46, 111, 114, 103])], [(.str [77, 65, 73, 76, 32, 70, 82, 79, 77, 58, 60, 97, 110, 110, 64, 120, 46, 111, 114, 103, 62])], [(.str [82, 67, 80, 84, 32, 84, 79, 58, 60, 98, 111, 98, 64, 121, 46, 111, 114, 103, 62])], [(.str [68, 65, 84, 65])], [(.str [116, 101, 120, 116])], [(.str [46])]])), r9.1, (.int .i64 0), (.int .i64 0), (.str []), (.str []), (.sl true []), (.sl true []), (.sl true []), (.int .i64 0), (.str []), (.str []), (.sl true []), (.sl true []), (.sl true [])] r9.2).bind fun r32 =>
  inN r32.1 [
  gotV 13 r32.2.1 fun v33 =>
  (cv id_spec_l13Rd_pick [(strip (v33 0)), (.int .i64 3)] r32.2.2).bind fun r36 =>
  (lpW' spec_l10Draw_l9 [(strip (v33 0)), r36.1, (v33 1), (v33 2), (v33 3), (v33 4), (v33 5), (v33 6), (v33 7), (v33 8), (v33 9), (v33 10), (v33 11), (v33 12)] r36.2).bind fun r63 =>
  inN r63.1 [
  gotV 12 r63.2.1 fun v64 =>
  some ((.agg [(v64 6), (v64 7), (v64 8), (v64 9), (v64 10), (v64 11)]), r63.2.2)]] := (callV_eq vb _ _ _ rfl).trans (by kernel_rfl)

/-! (*loop.example/mailwire/spec.l13Rd).num : kind 0, moves [] -/
theorem spec_l13Rd_num_eq (a0 a1 : V) (H : VH) : cv id_spec_l13Rd_num [a0, a1] H =
  (vLenVV (strip a1)).bind fun x8_4 =>
  (cv id_spec_l13Rd_pick [(strip a0), (strip x8_4)] H).bind fun r6 =>
  (vIdxV 1 (strip a1) r6.1).bind fun x10_7 =>
  (ldO globB false false 1 x10_7 r6.2).bind fun r9 =>
  some (r9.1, r9.2) := (callV_eq vb _ _ _ rfl).trans (by kernel_rfl)

/-! (*loop.example/mailwire/spec.l13Rd).pick : kind 0, moves [] -/
theorem spec_l13Rd_pick_eq (a0 a1 : V) (H : VH) : cv id_spec_l13Rd_pick [a0, a1] H =
  (vNilV (strip a0)).bind fun x9_3 =>
  (vOffV x9_3 1).bind fun x10_4 =>
  (ldO globB false false 1 x10_4 H).bind fun r6 =>
  (vBinV (.int .i64) .add r6.1 (.int .i64 1)).bind fun x12_7 =>
  (vNilV a0).bind fun x13_8 =>
  (vOffV x13_8 1).bind fun x14_9 =>
  (vOneV x12_7).bind fun y11 =>
  (stO x14_9 [y11] r6.2).bind fun H12 =>
  (id (
  (vBinV (.int .i64) .lss a1 (.int .i64 1)).bind fun x16_14 =>
  ifGV x16_14 (
  some (0, [(.int .i64 0)], H12)) (
  (vNilV (strip (strip a0))).bind fun x19_19 =>
  (vOffV x19_19 0).bind fun x20_20 =>
  (ldO globB false false 1 x20_20 H12).bind fun r22 =>
  (vLenVV r22.1).bind fun x22_23 =>
  (vBinV (.int .i64) .eql x22_23 (.int .i64 0)).bind fun x23_24 =>
  ifVV x23_24 (
  some (0, [(.int .i64 0)], r22.2)) (
  some (1, [(strip (strip (strip a0))), (strip a1)], r22.2))) : Option (Nat × List V × VH))).bind fun r27 =>
  inN r27.1 [
  gotV 1 r27.2.1 fun v28 =>
  some ((v28 0), r27.2.2),
  gotV 2 r27.2.1 fun v29 =>
  (vNilV (v29 0)).bind fun x26_31 =>
  (vOffV x26_31 1).bind fun x27_32 =>
  (ldO globB false false 1 x27_32 r27.2.2).bind fun r34 =>
  (vBinV (.int .i64) .sub r34.1 (.int .i64 1)).bind fun x29_35 =>
  (vNilV (strip (v29 0))).bind fun x32_39 =>
  (vOffV x32_39 0).bind fun x33_40 =>
  (ldO globB false false 1 x33_40 r34.2).bind fun r42 =>
  (vLenVV r42.1).bind fun x35_43 =>
  (vBinV (.int .i64) .lss x29_35 x35_43).bind fun x36_44 =>
  ifVV x36_44 (
  (vNilV (strip (strip (v29 0)))).bind fun x38_46 =>
  (vOffV x38_46 0).bind fun x39_47 =>
  (ldO globB false false 1 x39_47 r42.2).bind fun r49 =>
  (vIdxV 1 r49.1 (strip x29_35)).bind fun x42_51 =>
  (ldO globB false false 1 x42_51 r49.2).bind fun r53 =>
  (vConvV .i64 r53.1).bind fun x44_54 =>
  (vBinV (.int .i64) .rem x44_54 (v29 1)).bind fun x46_56 =>
  some (x46_56, r53.2)) (
  (vNilV (strip (strip (v29 0)))).bind fun x48_59 =>
  (vOffV x48_59 0).bind fun x49_60 =>
  (ldO globB false false 1 x49_60 r42.2).bind fun r62 =>
  (vNilV (strip (strip (strip (v29 0))))).bind fun x53_65 =>
  (vOffV x53_65 0).bind fun x54_66 =>
  (ldO globB false false 1 x54_66 r62.2).bind fun r68 =>
  (vLenVV r68.1).bind fun x56_69 =>
  (vBinV (.int .i64) .rem (strip x29_35) x56_69).bind fun x57_70 =>
  (vIdxV 1 r62.1 x57_70).bind fun x58_71 =>
  (ldO globB false false 1 x58_71 r68.2).bind fun r73 =>
  (vConvV .i64 r73.1).bind fun x60_74 =>
  (vBinV (.int .i64) .mul x60_74 (.int .i64 131)).bind fun x61_75 =>
  (vNilV (strip (strip (strip (strip (v29 0)))))).bind fun x63_77 =>
  (vOffV x63_77 0).bind fun x64_78 =>
  (ldO globB false false 1 x64_78 r73.2).bind fun r80 =>
  (vBinV (.int .i64) .mul (strip (strip x29_35)) (.int .i64 7)).bind fun x67_82 =>
  (vBinV (.int .i64) .add x67_82 (.int .i64 3)).bind fun x68_83 =>
  (vNilV (strip (strip (strip (strip (strip (v29 0))))))).bind fun x70_85 =>
  (vOffV x70_85 0).bind fun x71_86 =>
  (ldO globB false false 1 x71_86 r80.2).bind fun r88 =>
  (vLenVV r88.1).bind fun x73_89 =>
  (vBinV (.int .i64) .rem x68_83 x73_89).bind fun x74_90 =>
  (vIdxV 1 r80.1 x74_90).bind fun x75_91 =>
  (ldO globB false false 1 x75_91 r88.2).bind fun r93 =>
  (vConvV .i64 r93.1).bind fun x77_94 =>
  (vBinV (.int .i64) .mul x77_94 (.int .i64 1117)).bind fun x78_95 =>
  (vBinV (.int .i64) .add x61_75 x78_95).bind fun x79_96 =>
  (vBinV (.int .i64) .mul (strip (strip (strip x29_35))) (.int .i64 29)).bind fun x81_98 =>
  (vBinV (.int .i64) .add x79_96 x81_98).bind fun x82_99 =>
  (vNilV (strip (strip (strip (strip (strip (strip (v29 0)))))))).bind fun x85_102 =>
  (vOffV x85_102 0).bind fun x86_103 =>
  (ldO globB false false 1 x86_103 r93.2).bind fun r105 =>
  (vLenVV r105.1).bind fun x88_106 =>
  (vBinV (.int .i64) .quo (strip (strip (strip (strip x29_35)))) x88_106).bind fun x89_107 =>
  (vBinV (.int .i64) .mul x89_107 (.int .i64 53)).bind fun x90_108 =>
  (vBinV (.int .i64) .add x82_99 x90_108).bind fun x91_109 =>
  (vBinV (.int .i64) .quo (strip x91_109) (.int .i64 64)).bind fun x94_113 =>
  (vBinV (.int .i64) .xor x91_109 x94_113).bind fun x95_114 =>
  (vBinV (.int .i64) .rem x95_114 (v29 1)).bind fun x98_118 =>
  some (x98_118, r105.2))] := (callV_eq vb _ _ _ rfl).trans (by kernel_rfl)

/-! loop.example/mailwire/spec.SayLine : kind 0, moves [0] -/
theorem spec_SayLine_eq (a0 a1 : V) (H : VH) : cv id_spec_SayLine [a0, a1] H =
  (aggNV 6 a0).bind fun c1 =>
  (cv id_spec_l10RawSayLine [(.agg [(c1.getD 0 .nilp), (c1.getD 1 .nilp), (c1.getD 2 .nilp), (c1.getD 3 .nilp), (c1.getD 4 .nilp), (c1.getD 5 .nilp)]), (strip a1)] H).bind fun r8 =>
  (vExtV r8.1 0).bind fun x14_10 =>
  (vExtV r8.1 1).bind fun x15_11 =>
  (vExtV r8.1 2).bind fun x16_12 =>
  (aggNV 6 (strip x14_10)).bind fun c15 =>
  (pc id_spec_l13OwnSession [(frz r8.2 (.agg [(strip (c15.getD 0 .nilp)), (strip (c15.getD 1 .nilp)), (strip (c15.getD 2 .nilp)), (strip (c15.getD 3 .nilp)), (strip (c15.getD 4 .nilp)), (strip (c15.getD 5 .nilp))]))]).bind fun x18_19 =>
  (aggNV 6 x18_19).bind fun c23 =>
  some ((.tup [(.agg [(c23.getD 0 .nilp), (c23.getD 1 .nilp), (c23.getD 2 .nilp), (c23.getD 3 .nilp), (c23.getD 4 .nilp), (c23.getD 5 .nilp)]), (strip x15_11), (strip x16_12)]), r8.2) := (callV_eq vb _ _ _ rfl).trans (by kernel_rfl)

/-! loop.example/mailwire/spec.l10RawSayLine : kind 0, moves [0] -/
theorem spec_l10RawSayLine_eq (a0 a1 : V) (H : VH) : cv id_spec_l10RawSayLine [a0, a1] H =
  (aggNV 6 a0).bind fun c1 =>
  (id (
  (qc id_spec_SessionValid [(frz H (.agg [(strip (c1.getD 0 .nilp)), (strip (c1.getD 1 .nilp)), (strip (c1.getD 2 .nilp)), (strip (c1.getD 3 .nilp)), (strip (c1.getD 4 .nilp)), (strip (c1.getD 5 .nilp))]))]).bind fun x10_6 =>
  (vUnV .not x10_6).bind fun x11_7 =>
  ifGV x11_7 (
  some (0, [(.int .i64 0), (.bool false), (.int .i64 0), (.str []), (.str []), (.sl true []), (.sl true []), (.sl true [])], H)) (
  (vBinV (.int .i64) .eql (strip (c1.getD 0 .nilp)) (.int .i64 5)).bind fun x15_18 =>
  ifGV x15_18 (
  some (0, [(.int .i64 0), (.bool false), (.int .i64 0), (.str []), (.str []), (.sl true []), (.sl true []), (.sl true [])], H)) (
  (qc id_spec_TextValid [(frz H a1)]).bind fun x19_27 =>
  (vUnV .not x19_27).bind fun x20_28 =>
  ifVV x20_28 (
  some (0, [(.int .i64 0), (.bool false), (.int .i64 0), (.str []), (.str []), (.sl true []), (.sl true []), (.sl true [])], H)) (
  some (1, [(strip a1), (c1.getD 0 .nilp), (c1.getD 1 .nilp), (c1.getD 2 .nilp), (c1.getD 3 .nilp), (c1.getD 4 .nilp), (c1.getD 5 .nilp), (.int .i64 0), (.str []), (.str []), (.sl true []), (.sl true []), (.sl true [])], H)))) : Option (Nat × List V × VH))).bind fun r34 =>
  inN r34.1 [
  gotV 8 r34.2.1 fun v35 =>
  some ((.tup [(.agg [(v35 2), (v35 3), (v35 4), (v35 5), (v35 6), (v35 7)]), (v35 0), (v35 1)]), r34.2.2),
  gotV 13 r34.2.1 fun v36 =>
  (cv id_spec_l10Copy [(.agg [(v36 1), (v36 2), (v36 3), (v36 4), (v36 5), (v36 6)])] r34.2.2).bind fun r39 =>
  (aggNV 6 r39.1).bind fun c42 =>
  (id (
  (vBinV (.int .i64) .eql (strip (strip (v36 1))) (.int .i64 4)).bind fun x27_46 =>
  ifVV x27_46 (
  (cv id_spec_l10Data [(.agg [(c42.getD 0 .nilp), (c42.getD 1 .nilp), (c42.getD 2 .nilp), (c42.getD 3 .nilp), (c42.getD 4 .nilp), (c42.getD 5 .nilp)]), (strip (v36 0))] r39.2).bind fun r50 =>
  (vExtV r50.1 0).bind fun x32_52 =>
  (vExtV (stripAt 0 r50.1) 1).bind fun x33_53 =>
  (aggNV 6 x32_52).bind fun c55 =>
  some (0, [(strip x33_53), (v36 7), (v36 8), (v36 9), (v36 10), (v36 11), (v36 12), (c55.getD 0 .nilp), (c55.getD 1 .nilp), (c55.getD 2 .nilp), (c55.getD 3 .nilp), (c55.getD 4 .nilp), (c55.getD 5 .nilp)], r50.2)) (
  (cv id_spec_l10Command [(.agg [(c42.getD 0 .nilp), (c42.getD 1 .nilp), (c42.getD 2 .nilp), (c42.getD 3 .nilp), (c42.getD 4 .nilp), (c42.getD 5 .nilp)]), (strip (v36 0))] r39.2).bind fun r60 =>
  (vExtV r60.1 0).bind fun x38_62 =>
  (vExtV (stripAt 0 r60.1) 1).bind fun x39_63 =>
  (aggNV 6 x38_62).bind fun c65 =>
  some (0, [(strip x39_63), (v36 7), (v36 8), (v36 9), (v36 10), (v36 11), (v36 12), (c65.getD 0 .nilp), (c65.getD 1 .nilp), (c65.getD 2 .nilp), (c65.getD 3 .nilp), (c65.getD 4 .nilp), (c65.getD 5 .nilp)], r60.2)) : Option (Nat × List V × VH))).bind fun r67 =>
  inN r67.1 [
  gotV 13 r67.2.1 fun v68 =>
  some ((.tup [(.agg [(v68 7), (v68 8), (v68 9), (v68 10), (v68 11), (v68 12)]), (v68 0), (.bool true)]), r67.2.2)]] := (callV_eq vb _ _ _ rfl).trans (by kernel_rfl)

/-! loop.example/mailwire/spec.SessionValid : kind 1, moves [] -/
noncomputable def spec_SessionValid_l5 : List V → VH → Option (Option Nat × List V × VH) := roundV (vb.ctx cv lpW') (vb.b.ann 41) (vb.takes 41) ⟨⟨[4], [(1, (1, 0)), (3, (3, 0))], [(1, 6), (3, 3)]⟩, [(.exit 0, ⟨[], [(1, (1, 0)), (3, (3, 0))], [(1, 6), (3, 3)]⟩), (.ret, ⟨[2], [], []⟩)]⟩ (loopIn Tryz.f41 5)
theorem spec_SessionValid_l5_eq (v0 v1 v2 v3 v4 v5 v6 v7 v8 v9 : V) (H : VH) : spec_SessionValid_l5 [v0, v1, v2, v3, v4, v5, v6, v7, v8, v9] H =
  (vLenVV (strip v6)).bind fun x40_74 =>
  (vBinV (.int .i64) .lss v0 x40_74).bind fun x41_75 =>
  ifVV x41_75 (
  (vIdxV 3 (strip v6) (strip v0)).bind fun x47_79 =>
  (ldO globB false true 3 x47_79 H).bind fun r81 =>
  (qc id_spec_MailValid [(frz r81.2 r81.1)]).bind fun x49_82 =>
  (vUnV .not x49_82).bind fun x50_83 =>
  ifVV x50_83 (
  some (some 1, [(.bool false)], r81.2)) (
  (vBinV (.int .i64) .add (strip (strip v0)) (.int .i64 1)).bind fun x43_86 =>
  some (none, [x43_86, v1, v2, v3, v4, v5, v6, v7, v8, v9], r81.2))) (
  some (some 0, [v1, v2, v3, v4, v5, v6, v7, v8, v9], H)) := by kernel_rfl
theorem spec_SessionValid_eq (a0 : V) (H : VH) : cv id_spec_SessionValid [a0] H =
  (aggNV 6 a0).bind fun c1 =>
  (id (
  (vBinV (.int .i64) .lss (strip (c1.getD 0 .nilp)) (.int .i64 0)).bind fun x9_9 =>
  ifGV x9_9 (
  some (0, [(.bool false)], H)) (
  (vBinV (.int .i64) .gtr (strip (c1.getD 0 .nilp)) (.int .i64 5)).bind fun x13_21 =>
  ifGV x13_21 (
  some (0, [(.bool false)], H)) (
  (qc id_spec_l10Draft [(frz H (.agg [(strip (strip (c1.getD 2 .nilp))), (strip (strip (c1.getD 3 .nilp))), (strip (strip (c1.getD 4 .nilp)))]))]).bind fun x17_31 =>
  (vUnV .not x17_31).bind fun x18_32 =>
  ifGV x18_32 (
  some (0, [(.bool false)], H)) (
  (vBinV .str .neq (strip (c1.getD 1 .nilp)) (.str [])).bind fun x23_41 =>
  ifGV x23_41 (
  (qc id_spec_l2Domain [(frz H (strip (c1.getD 1 .nilp)))]).bind fun x27_45 =>
  (vUnV .not x27_45).bind fun x28_46 =>
  ifGV x28_46 (
  some (0, [(.bool false)], H)) (
  (vLenVV (strip (c1.getD 5 .nilp))).bind fun x34_54 =>
  (vBinV (.int .i64) .gtr x34_54 (.int .i64 5)).bind fun x35_55 =>
  ifVV x35_55 (
  some (0, [(.bool false)], H)) (
  some (1, [(c1.getD 0 .nilp), (c1.getD 1 .nilp), (c1.getD 2 .nilp), (c1.getD 3 .nilp), (c1.getD 4 .nilp), (c1.getD 5 .nilp), (strip (c1.getD 2 .nilp)), (strip (c1.getD 3 .nilp)), (strip (c1.getD 4 .nilp))], H)))) (
  (vLenVV (strip (c1.getD 5 .nilp))).bind fun x34_63 =>
  (vBinV (.int .i64) .gtr x34_63 (.int .i64 5)).bind fun x35_64 =>
  ifVV x35_64 (
  some (0, [(.bool false)], H)) (
  some (1, [(c1.getD 0 .nilp), (c1.getD 1 .nilp), (c1.getD 2 .nilp), (c1.getD 3 .nilp), (c1.getD 4 .nilp), (c1.getD 5 .nilp), (strip (c1.getD 2 .nilp)), (strip (c1.getD 3 .nilp)), (strip (c1.getD 4 .nilp))], H)))))) : Option (Nat × List V × VH))).bind fun r67 =>
  inN r67.1 [
  gotV 1 r67.2.1 fun v68 =>
  some ((v68 0), r67.2.2),
  gotV 9 r67.2.1 fun v69 =>
  (lpW' spec_SessionValid_l5 [(.int .i64 0), (v69 0), (v69 1), (v69 2), (v69 3), (v69 4), (v69 5), (v69 6), (v69 7), (v69 8)] r67.2.2).bind fun r88 =>
  inN r88.1 [
  gotV 9 r88.2.1 fun v89 =>
  (id (
  (vBinV (.int .i64) .neq (strip (v89 0)) (.int .i64 5)).bind fun x53_92 =>
  ifGV x53_92 (
  (vBinV (.int .i64) .eql (strip (v89 0)) (.int .i64 0)).bind fun x57_96 =>
  (vBinV .str .eql (strip (v89 1)) (.str [])).bind fun x60_99 =>
  (vBinV .bool .neq x57_96 x60_99).bind fun x61_100 =>
  ifVV x61_100 (
  some (0, [(.bool false)], r88.2.2)) (
  some (1, [(v89 0), (v89 1), (v89 2), (v89 3), (v89 4), (v89 5), (v89 6), (v89 7), (v89 8)], r88.2.2))) (
  some (1, [(v89 0), (v89 1), (v89 2), (v89 3), (v89 4), (v89 5), (v89 6), (v89 7), (v89 8)], r88.2.2)) : Option (Nat × List V × VH))).bind fun r104 =>
  inN r104.1 [
  gotV 1 r104.2.1 fun v105 =>
  some ((v105 0), r104.2.2),
  gotV 9 r104.2.1 fun v106 =>
  (id (
  (vBinV (.int .i64) .neq (strip (v106 0)) (.int .i64 4)).bind fun x65_109 =>
  ifGV x65_109 (
  (vLenVV (strip (v106 8))).bind fun x69_113 =>
  (vBinV (.int .i64) .gtr x69_113 (.int .i64 0)).bind fun x70_114 =>
  ifVV x70_114 (
  some (0, [(.bool false)], r104.2.2)) (
  some (1, [(v106 0), (v106 1), (v106 2), (v106 3), (v106 4), (v106 5), (v106 6), (v106 7), (v106 8)], r104.2.2))) (
  some (1, [(v106 0), (v106 1), (v106 2), (v106 3), (v106 4), (v106 5), (v106 6), (v106 7), (v106 8)], r104.2.2)) : Option (Nat × List V × VH))).bind fun r118 =>
  inN r118.1 [
  gotV 1 r118.2.1 fun v119 =>
  some ((v119 0), r118.2.2),
  gotV 9 r118.2.1 fun v120 =>
  (id (
  (id (
  (vBinV (.int .i64) .eql (strip (v120 0)) (.int .i64 3)).bind fun x75_123 =>
  ifVV x75_123 (
  some (0, [(strip (v120 0)), x75_123, (v120 6), (v120 7), (v120 8)], r118.2.2)) (
  (vBinV (.int .i64) .eql (strip (v120 0)) (.int .i64 4)).bind fun x76_125 =>
  some (0, [(strip (v120 0)), x76_125, (v120 6), (v120 7), (v120 8)], r118.2.2)) : Option (Nat × List V × VH))).bind fun r127 =>
  inN r127.1 [
  gotV 5 r127.2.1 fun v128 =>
  ifVV (v128 1) (
  (vLenVV (strip (v128 3))).bind fun x79_131 =>
  (vBinV (.int .i64) .gtr x79_131 (.int .i64 0)).bind fun x80_132 =>
  some (0, [x80_132], r127.2.2)) (
  (vBinV (.int .i64) .eql (v128 0) (.int .i64 2)).bind fun x82_134 =>
  ifVV x82_134 (
  (vLenVV (strip (v128 3))).bind fun x85_138 =>
  (vBinV (.int .i64) .eql x85_138 (.int .i64 0)).bind fun x86_139 =>
  some (0, [x86_139], r127.2.2)) (
  some (1, [(v128 2), (v128 3), (v128 4)], r127.2.2)))] : Option (Nat × List V × VH))).bind fun r141 =>
  inN r141.1 [
  gotV 1 r141.2.1 fun v142 =>
  some ((v142 0), r141.2.2),
  gotV 3 r141.2.1 fun v143 =>
  (vBinV .str .eql (strip (v143 0)) (.str [])).bind fun x89_146 =>
  ifGV x89_146 (
  (vLenVV (strip (v143 1))).bind fun x93_150 =>
  (vBinV (.int .i64) .eql x93_150 (.int .i64 0)).bind fun x94_151 =>
  some (x94_151, r141.2.2)) (
  some ((.bool false), r141.2.2))]]],
  gotV 1 r88.2.1 fun v156 =>
  some ((v156 0), r88.2.2)]] := (callV_eq vb _ _ _ rfl).trans (by kernel_rfl)

/-! loop.example/mailwire/spec.l10Draft : kind 1, moves [] -/
noncomputable def spec_l10Draft_l4 : List V → VH → Option (Option Nat × List V × VH) := roundV (vb.ctx cv lpW') (vb.b.ann 64) (vb.takes 64) ⟨⟨[3], [(1, (1, 0))], [(1, 3)]⟩, [(.exit 0, ⟨[], [(1, (1, 0))], [(1, 3)]⟩), (.ret, ⟨[2], [], []⟩)]⟩ (loopIn Tryz.f64 4)
noncomputable def spec_l10Draft_l9 : List V → VH → Option (Option Nat × List V × VH) := roundV (vb.ctx cv lpW') (vb.b.ann 64) (vb.takes 64) ⟨⟨[4], [(1, (1, 0))], [(1, 3)]⟩, [(.exit 2, ⟨[], [], []⟩), (.ret, ⟨[2], [], []⟩)]⟩ (loopIn Tryz.f64 9)
theorem spec_l10Draft_l4_eq (v0 v1 v2 v3 : V) (H : VH) : spec_l10Draft_l4 [v0, v1, v2, v3] H =
  (vLenVV (strip v2)).bind fun x29_54 =>
  (vBinV (.int .i64) .lss v0 x29_54).bind fun x30_55 =>
  ifVV x30_55 (
  (vIdxV 1 (strip v2) (strip v0)).bind fun x36_59 =>
  (ldO globB false false 1 x36_59 H).bind fun r61 =>
  (qc id_spec_l10Box [(frz r61.2 r61.1)]).bind fun x38_62 =>
  (vUnV .not x38_62).bind fun x39_63 =>
  ifVV x39_63 (
  some (some 1, [(.bool false)], r61.2)) (
  (vBinV (.int .i64) .add (strip (strip v0)) (.int .i64 1)).bind fun x32_66 =>
  some (none, [x32_66, v1, v2, v3], r61.2))) (
  some (some 0, [v1, v2, v3], H)) := by kernel_rfl
theorem spec_l10Draft_l9_eq (v0 v1 v2 v3 : V) (H : VH) : spec_l10Draft_l9 [v0, v1, v2, v3] H =
  (vLenVV (strip v3)).bind fun x43_74 =>
  (vBinV (.int .i64) .lss v0 x43_74).bind fun x44_75 =>
  ifVV x44_75 (
  (vIdxV 1 (strip v3) (strip v0)).bind fun x50_79 =>
  (ldO globB false false 1 x50_79 H).bind fun r81 =>
  (qc id_spec_TextValid [(frz r81.2 r81.1)]).bind fun x52_82 =>
  (vUnV .not x52_82).bind fun x53_83 =>
  ifVV x53_83 (
  some (some 1, [(.bool false)], r81.2)) (
  (vBinV (.int .i64) .add (strip (strip v0)) (.int .i64 1)).bind fun x46_86 =>
  some (none, [x46_86, v1, v2, v3], r81.2))) (
  some (some 0, [], H)) := by kernel_rfl
theorem spec_l10Draft_eq (a0 : V) (H : VH) : cv id_spec_l10Draft [a0] H =
  (aggNV 3 a0).bind fun c1 =>
  (id (
  (vBinV .str .neq (strip (c1.getD 0 .nilp)) (.str [])).bind fun x7_5 =>
  ifGV x7_5 (
  (qc id_spec_l10Box [(frz H (strip (c1.getD 0 .nilp)))]).bind fun x11_9 =>
  (vUnV .not x11_9).bind fun x12_10 =>
  ifGV x12_10 (
  some (0, [(.bool false)], H)) (
  (vLenVV (strip (c1.getD 1 .nilp))).bind fun x17_19 =>
  (vBinV (.int .i64) .gtr x17_19 (.int .i64 10)).bind fun x18_20 =>
  ifGV x18_20 (
  some (0, [(.bool false)], H)) (
  (vLenVV (strip (c1.getD 2 .nilp))).bind fun x23_27 =>
  (vBinV (.int .i64) .gtr x23_27 (.int .i64 31)).bind fun x24_28 =>
  ifVV x24_28 (
  some (0, [(.bool false)], H)) (
  some (1, [(c1.getD 0 .nilp), (c1.getD 1 .nilp), (c1.getD 2 .nilp)], H))))) (
  (vLenVV (strip (c1.getD 1 .nilp))).bind fun x17_35 =>
  (vBinV (.int .i64) .gtr x17_35 (.int .i64 10)).bind fun x18_36 =>
  ifGV x18_36 (
  some (0, [(.bool false)], H)) (
  (vLenVV (strip (c1.getD 2 .nilp))).bind fun x23_43 =>
  (vBinV (.int .i64) .gtr x23_43 (.int .i64 31)).bind fun x24_44 =>
  ifVV x24_44 (
  some (0, [(.bool false)], H)) (
  some (1, [(c1.getD 0 .nilp), (c1.getD 1 .nilp), (c1.getD 2 .nilp)], H)))) : Option (Nat × List V × VH))).bind fun r47 =>
  inN r47.1 [
  gotV 1 r47.2.1 fun v48 =>
  some ((v48 0), r47.2.2),
  gotV 3 r47.2.1 fun v49 =>
  (lpW' spec_l10Draft_l4 [(.int .i64 0), (v49 0), (v49 1), (v49 2)] r47.2.2).bind fun r68 =>
  inN r68.1 [
  gotV 3 r68.2.1 fun v69 =>
  (lpW' spec_l10Draft_l9 [(.int .i64 0), (v69 0), (v69 1), (v69 2)] r68.2.2).bind fun r88 =>
  inN r88.1 [
  gotV 0 r88.2.1 fun v89 =>
  some ((.bool true), r88.2.2),
  gotV 1 r88.2.1 fun v91 =>
  some ((v91 0), r88.2.2)],
  gotV 1 r68.2.1 fun v92 =>
  some ((v92 0), r68.2.2)]] := (callV_eq vb _ _ _ rfl).trans (by kernel_rfl)

/-! loop.example/mailwire/spec.l10Box : kind 1, moves [] -/
theorem spec_l10Box_eq (a0 : V) (H : VH) : cv id_spec_l10Box [a0] H =
  (pc id_spec_l2Box [(frz H a0)]).bind fun x7_2 =>
  (vExtV x7_2 0).bind fun x8_4 =>
  (vExtV x7_2 1).bind fun x9_5 =>
  (aggNV 3 (strip x8_4)).bind fun c8 =>
  ifGV (strip x9_5) (
  (vBinV .str .add (strip (c8.getD 1 .nilp)) (.str [64])).bind fun x14_14 =>
  (vBinV .str .add x14_14 (strip (c8.getD 2 .nilp))).bind fun x17_17 =>
  (vBinV .str .eql x17_17 (strip a0)).bind fun x19_19 =>
  some (x19_19, H)) (
  some ((.bool false), H)) := (callV_eq vb _ _ _ rfl).trans (by kernel_rfl)

/-! loop.example/mailwire/spec.l2Box : kind 2, moves [] -/
theorem spec_l2Box_eq (a0 : V) (H : VH) : cv id_spec_l2Box [a0] H =
  (qc id_spec_l2Cut [(frz H a0), (frz H (.int .u8 64))]).bind fun x10_3 =>
  (vExtV x10_3 0).bind fun x11_5 =>
  (vExtV x10_3 1).bind fun x12_6 =>
  (vExtV x10_3 2).bind fun x13_7 =>
  (qc id_spec_LowerText [(frz H (strip x12_6))]).bind fun x16_13 =>
  (vOneV (strip x11_5)).bind fun y15 =>
  (vOneV x16_13).bind fun y16 =>
  ifGV (strip x13_7) (
  (qc id_spec_AddressValid [(frz H (.agg [(.str []), (strip y15), (strip y16)]))]).bind fun x22_23 =>
  some ((.tup [(.agg [(.str []), (strip y15), (strip y16)]), x22_23]), H)) (
  some ((.tup [(.agg [(.str []), (strip y15), (strip y16)]), (.bool false)]), H)) := (callV_eq vb _ _ _ rfl).trans (by kernel_rfl)

/-! loop.example/mailwire/spec.l2Cut : kind 1, moves [] -/
noncomputable def spec_l2Cut_l2 : List V → VH → Option (Option Nat × List V × VH) := roundV (vb.ctx cv lpW') (vb.b.ann 67) (vb.takes 67) ⟨⟨[0, 1, 7], [], []⟩, [(.exit 0, ⟨[0], [], []⟩), (.ret, ⟨[4, 5, 6], [], []⟩)]⟩ (loopIn Tryz.f67 2)
theorem spec_l2Cut_l2_eq (v0 v1 v2 : V) (H : VH) : spec_l2Cut_l2 [v0, v1, v2] H =
  (vLenSV v0).bind fun x12_6 =>
  (vBinV (.int .i64) .lss v2 x12_6).bind fun x13_7 =>
  ifVV x13_7 (
  (vIndexSV (strip v0) (strip v2)).bind fun x16_10 =>
  (vBinV (.int .u8) .eql x16_10 (.int .u8 34)).bind fun x17_11 =>
  ifVV x17_11 (
  (qc id_spec_l1Read [(frz H (strip (strip v0))), (frz H (strip (strip v2)))]).bind fun x21_14 =>
  (vExtV x21_14 0).bind fun x22_16 =>
  (vExtV x21_14 1).bind fun x23_17 =>
  (vBinV (.int .i64) .lss (strip x23_17) (.int .i64 0)).bind fun x25_21 =>
  ifVV x25_21 (
  some (some 1, [(strip (strip (strip v0))), (.str []), (.bool false)], H)) (
  some (none, [(strip (strip (strip v0))), v1, (strip (strip x23_17))], H))) (
  (vIndexSV (strip (strip v0)) (strip (strip v2))).bind fun x30_30 =>
  (vBinV (.int .u8) .eql x30_30 v1).bind fun x32_32 =>
  ifVV x32_32 (
  (vSliceSV (strip (strip (strip v0))) none (some (strip (strip (strip v2))))).bind fun x35_35 =>
  (vBinV (.int .i64) .add (strip (strip (strip (strip v2)))) (.int .i64 1)).bind fun x38_38 =>
  (vSliceSV (strip (strip (strip (strip v0)))) (some x38_38) none).bind fun x39_39 =>
  some (some 1, [x35_35, x39_39, (.bool true)], H)) (
  (vBinV (.int .i64) .add (strip (strip (strip v2))) (.int .i64 1)).bind fun x41_44 =>
  some (none, [(strip (strip (strip v0))), (strip v1), x41_44], H)))) (
  some (some 0, [(strip v0)], H)) := by kernel_rfl
theorem spec_l2Cut_eq (a0 a1 : V) (H : VH) : cv id_spec_l2Cut [a0, a1] H =
  (lpW' spec_l2Cut_l2 [a0, a1, (.int .i64 0)] H).bind fun r46 =>
  inN r46.1 [
  gotV 1 r46.2.1 fun v47 =>
  some ((.tup [(v47 0), (.str []), (.bool false)]), r46.2.2),
  gotV 3 r46.2.1 fun v52 =>
  some ((.tup [(v52 0), (v52 1), (v52 2)]), r46.2.2)] := (callV_eq vb _ _ _ rfl).trans (by kernel_rfl)

/-! loop.example/mailwire/spec.l1Read : kind 1, moves [] -/
noncomputable def spec_l1Read_l3 : List V → VH → Option (Option Nat × List V × VH) := roundV (vb.ctx cv lpW') (vb.b.ann 89) (vb.takes 89) ⟨⟨[0, 6, 7], [], []⟩, [(.exit 0, ⟨[], [], []⟩), (.ret, ⟨[4, 5], [], []⟩)]⟩ (loopIn Tryz.f89 3)
theorem spec_l1Read_l3_eq (v0 v1 v2 : V) (H : VH) : spec_l1Read_l3 [v0, v1, v2] H =
  (vLenSV v0).bind fun x12_8 =>
  (vBinV (.int .i64) .lss v2 x12_8).bind fun x13_9 =>
  ifVV x13_9 (
  (id (
  (vIndexSV (strip v0) (strip v2)).bind fun x18_12 =>
  (vBinV (.int .u8) .eql x18_12 (.int .u8 34)).bind fun x19_13 =>
  ifVV x19_13 (
  (vBinV (.int .i64) .add (strip (strip v2)) (.int .i64 1)).bind fun x22_16 =>
  some (0, [v1, x22_16], H)) (
  (id (
  (vIndexSV (strip (strip v0)) (strip (strip v2))).bind fun x25_21 =>
  (vBinV (.int .u8) .eql x25_21 (.int .u8 92)).bind fun x26_22 =>
  ifVV x26_22 (
  (vBinV (.int .i64) .add (strip (strip (strip v2))) (.int .i64 1)).bind fun x28_24 =>
  (vLenSV (strip (strip (strip v0)))).bind fun x31_28 =>
  (vBinV (.int .i64) .eql x28_24 x31_28).bind fun x32_29 =>
  ifVV x32_29 (
  some (0, [(.str []), (.int .i64 (-1))], H)) (
  some (1, [(strip (strip (strip (strip v0)))), v1, (strip x28_24)], H))) (
  some (1, [(strip (strip (strip v0))), v1, (strip (strip (strip v2)))], H)) : Option (Nat × List V × VH))).bind fun r32 =>
  inN r32.1 [
  gotV 2 r32.2.1 fun v33 =>
  some (0, [(v33 0), (v33 1)], r32.2.2),
  gotV 3 r32.2.1 fun v34 =>
  (vBinV (.int .i64) .add (strip (v34 2)) (.int .i64 1)).bind fun x37_39 =>
  (vSliceSV (v34 0) (some (v34 2)) (some x37_39)).bind fun x38_40 =>
  (vBinV .str .add (v34 1) x38_40).bind fun x39_41 =>
  some (1, [(strip (v34 0)), x39_41, (strip (strip (v34 2)))], r32.2.2)]) : Option (Nat × List V × VH))).bind fun r43 =>
  inN r43.1 [
  gotV 2 r43.2.1 fun v44 =>
  some (some 1, [(v44 0), (v44 1)], r43.2.2),
  gotV 3 r43.2.1 fun v45 =>
  (vBinV (.int .i64) .add (v45 2) (.int .i64 1)).bind fun x15_47 =>
  some (none, [(v45 0), (v45 1), x15_47], r43.2.2)]) (
  some (some 0, [], H)) := by kernel_rfl
theorem spec_l1Read_eq (a0 a1 : V) (H : VH) : cv id_spec_l1Read [a0, a1] H =
  (vBinV (.int .i64) .add a1 (.int .i64 1)).bind fun x9_4 =>
  (lpW' spec_l1Read_l3 [a0, (.str []), x9_4] H).bind fun r49 =>
  inN r49.1 [
  gotV 0 r49.2.1 fun v50 =>
  some ((.tup [(.str []), (.int .i64 (-1))]), r49.2.2),
  gotV 2 r49.2.1 fun v53 =>
  some ((.tup [(v53 0), (v53 1)]), r49.2.2)] := (callV_eq vb _ _ _ rfl).trans (by kernel_rfl)

/-! loop.example/mailwire/spec.LowerText : kind 1, moves [] -/
noncomputable def spec_LowerText_l3 : List V → VH → Option (Option Nat × List V × VH) := roundV (vb.ctx cv lpW') (vb.b.ann 68) (vb.takes 68) ⟨⟨[3, 4], [], []⟩, [(.exit 0, ⟨[3], [], []⟩)]⟩ (loopIn Tryz.f68 3)
theorem spec_LowerText_l3_eq (v0 v1 : V) (H : VH) : spec_LowerText_l3 [v0, v1] H =
  (vLenVV (strip v0)).bind fun x9_7 =>
  (vBinV (.int .i64) .lss v1 x9_7).bind fun x10_8 =>
  ifVV x10_8 (
  (id (
  (vIdxV 1 (strip v0) (strip v1)).bind fun x15_11 =>
  (ldO globB false false 1 x15_11 H).bind fun r13 =>
  (vBinV (.int .u8) .geq r13.1 (.int .u8 65)).bind fun x17_14 =>
  ifGV x17_14 (
  (vIdxV 1 (strip v0) (strip (strip v1))).bind fun x21_18 =>
  (ldO globB false false 1 x21_18 r13.2).bind fun r20 =>
  (vBinV (.int .u8) .leq r20.1 (.int .u8 90)).bind fun x23_21 =>
  ifVV x23_21 (
  (vIdxV 1 (strip v0) (strip (strip (strip (strip v1))))).bind fun x29_27 =>
  (ldO globB false false 1 x29_27 r20.2).bind fun r29 =>
  (vBinV (.int .u8) .add r29.1 (.int .u8 32)).bind fun x31_30 =>
  (vIdxV 1 (strip v0) (strip (strip (strip v1)))).bind fun x32_31 =>
  (vOneV x31_30).bind fun y33 =>
  (stO x32_31 [y33] r29.2).bind fun H34 =>
  some (0, [v0, (strip (strip (strip (strip (strip v1)))))], H34)) (
  some (0, [v0, (strip (strip (strip v1)))], r20.2))) (
  some (0, [v0, (strip (strip v1))], r13.2)) : Option (Nat × List V × VH))).bind fun r36 =>
  inN r36.1 [
  gotV 2 r36.2.1 fun v37 =>
  (vBinV (.int .i64) .add (v37 1) (.int .i64 1)).bind fun x12_39 =>
  some (none, [(v37 0), x12_39], r36.2.2)]) (
  some (some 0, [v0], H)) := by kernel_rfl
theorem spec_LowerText_eq (a0 : V) (H : VH) : cv id_spec_LowerText [a0] H =
  (s2bV a0).bind fun x6_2 =>
  (lpW' spec_LowerText_l3 [(.obs H.length 0 x6_2.length 1), (.int .i64 0)] (H ++ [x6_2])).bind fun r41 =>
  inN r41.1 [
  gotV 1 r41.2.1 fun v42 =>
  (b2sV (strip (v42 0)) r41.2.2).bind fun x34_44 =>
  some (x34_44, r41.2.2)] := (callV_eq vb _ _ _ rfl).trans (by kernel_rfl)

/-! loop.example/mailwire/spec.AddressValid : kind 1, moves [] -/
theorem spec_AddressValid_eq (a0 : V) (H : VH) : cv id_spec_AddressValid [a0] H =
  (aggNV 3 a0).bind fun c1 =>
  (qc id_spec_l2Name [(frz H (strip (c1.getD 0 .nilp)))]).bind fun x5_5 =>
  ifGV x5_5 (
  (vLenSV (strip (c1.getD 1 .nilp))).bind fun x9_9 =>
  (vBinV (.int .i64) .leq x9_9 (.int .i64 30)).bind fun x10_10 =>
  ifGV x10_10 (
  (qc id_spec_l2Local [(frz H (strip (c1.getD 1 .nilp)))]).bind fun x15_15 =>
  ifGV x15_15 (
  (vLenSV (strip (c1.getD 2 .nilp))).bind fun x20_20 =>
  (vBinV (.int .i64) .leq x20_20 (.int .i64 40)).bind fun x21_21 =>
  ifGV x21_21 (
  (qc id_spec_l2Domain [(frz H (strip (c1.getD 2 .nilp)))]).bind fun x26_26 =>
  some (x26_26, H)) (
  some ((.bool false), H))) (
  some ((.bool false), H))) (
  some ((.bool false), H))) (
  some ((.bool false), H)) := (callV_eq vb _ _ _ rfl).trans (by kernel_rfl)

/-! loop.example/mailwire/spec.l2Name : kind 1, moves [] -/
theorem spec_l2Name_eq (a0 : V) (H : VH) : cv id_spec_l2Name [a0] H =
  (qc id_spec_TextValid [(frz H a0)]).bind fun x4_2 =>
  ifGV x4_2 (
  (vLenSV (strip a0)).bind fun x7_5 =>
  (vBinV (.int .i64) .leq x7_5 (.int .i64 40)).bind fun x8_6 =>
  some (x8_6, H)) (
  some ((.bool false), H)) := (callV_eq vb _ _ _ rfl).trans (by kernel_rfl)

/-! loop.example/mailwire/spec.TextValid : kind 1, moves [] -/
noncomputable def spec_TextValid_l2 : List V → VH → Option (Option Nat × List V × VH) := roundV (vb.ctx cv lpW') (vb.b.ann 42) (vb.takes 42) ⟨⟨[0, 3], [], []⟩, [(.exit 0, ⟨[0], [], []⟩), (.ret, ⟨[2], [], []⟩)]⟩ (loopIn Tryz.f42 2)
theorem spec_TextValid_l2_eq (v0 v1 : V) (H : VH) : spec_TextValid_l2 [v0, v1] H =
  (id (
  (vLenSV v0).bind fun x6_4 =>
  (vBinV (.int .i64) .lss v1 x6_4).bind fun x7_5 =>
  ifGV x7_5 (
  (vBinV (.int .i64) .leq (strip v1) (.int .i64 200)).bind fun x10_8 =>
  ifVV x10_8 (
  some (0, [(strip v0), (strip (strip v1))], H)) (
  some (1, [(strip v0)], H))) (
  some (1, [(strip v0)], H)) : Option (Nat × List V × VH))).bind fun r11 =>
  inN r11.1 [
  gotV 2 r11.2.1 fun v12 =>
  (id (
  (vIndexSV (v12 0) (v12 1)).bind fun x16_15 =>
  (vBinV (.int .u8) .lss x16_15 (.int .u8 32)).bind fun x17_16 =>
  ifGV x17_16 (
  some (0, [(.bool false)], r11.2.2)) (
  (vIndexSV (strip (v12 0)) (strip (v12 1))).bind fun x21_22 =>
  (vBinV (.int .u8) .gtr x21_22 (.int .u8 126)).bind fun x22_23 =>
  ifVV x22_23 (
  some (0, [(.bool false)], r11.2.2)) (
  some (1, [(strip (strip (v12 0))), (strip (strip (v12 1)))], r11.2.2))) : Option (Nat × List V × VH))).bind fun r26 =>
  inN r26.1 [
  gotV 1 r26.2.1 fun v27 =>
  some (some 1, [(v27 0)], r26.2.2),
  gotV 2 r26.2.1 fun v28 =>
  (vBinV (.int .i64) .add (v28 1) (.int .i64 1)).bind fun x13_30 =>
  some (none, [(v28 0), x13_30], r26.2.2)],
  gotV 1 r11.2.1 fun v32 =>
  some (some 0, [(v32 0)], r11.2.2)] := by kernel_rfl
theorem spec_TextValid_eq (a0 : V) (H : VH) : cv id_spec_TextValid [a0] H =
  (lpW' spec_TextValid_l2 [a0, (.int .i64 0)] H).bind fun r33 =>
  inN r33.1 [
  gotV 1 r33.2.1 fun v34 =>
  (vLenSV (v34 0)).bind fun x25_36 =>
  (vBinV (.int .i64) .leq x25_36 (.int .i64 200)).bind fun x26_37 =>
  some (x26_37, r33.2.2),
  gotV 1 r33.2.1 fun v39 =>
  some ((v39 0), r33.2.2)] := (callV_eq vb _ _ _ rfl).trans (by kernel_rfl)

/-! loop.example/mailwire/spec.l2Local : kind 1, moves [] -/
noncomputable def spec_l2Local_l3 : List V → VH → Option (Option Nat × List V × VH) := roundV (vb.ctx cv lpW') (vb.b.ann 116) (vb.takes 116) ⟨⟨[0, 3, 4], [], []⟩, [(.exit 0, ⟨[0], [], []⟩), (.ret, ⟨[2], [], []⟩)]⟩ (loopIn Tryz.f116 3)
theorem spec_l2Local_l3_eq (v0 v1 v2 : V) (H : VH) : spec_l2Local_l3 [v0, v1, v2] H =
  (vLenVV (strip v1)).bind fun x9_7 =>
  (vBinV (.int .i64) .lss v2 x9_7).bind fun x10_8 =>
  ifVV x10_8 (
  (vIdxV 1 (strip v1) (strip v2)).bind fun x15_11 =>
  (ldO globB false false 1 x15_11 H).bind fun r13 =>
  (qc id_spec_AtomValid [(frz r13.2 r13.1)]).bind fun x17_14 =>
  (vUnV .not x17_14).bind fun x18_15 =>
  ifVV x18_15 (
  some (some 1, [(.bool false)], r13.2)) (
  (vBinV (.int .i64) .add (strip (strip v2)) (.int .i64 1)).bind fun x12_18 =>
  some (none, [v0, v1, x12_18], r13.2))) (
  some (some 0, [v0], H)) := by kernel_rfl
theorem spec_l2Local_eq (a0 : V) (H : VH) : cv id_spec_l2Local [a0] H =
  (pc id_spec_l2Parts [(frz H a0), (frz H (.int .u8 46))]).bind fun x6_2 =>
  (lpW' spec_l2Local_l3 [(strip a0), (strip x6_2), (.int .i64 0)] H).bind fun r20 =>
  inN r20.1 [
  gotV 1 r20.2.1 fun v21 =>
  (vLenSV (v21 0)).bind fun x20_23 =>
  (vBinV (.int .i64) .leq x20_23 (.int .i64 30)).bind fun x21_24 =>
  some (x21_24, r20.2.2),
  gotV 1 r20.2.1 fun v26 =>
  some ((v26 0), r20.2.2)] := (callV_eq vb _ _ _ rfl).trans (by kernel_rfl)

/-! loop.example/mailwire/spec.l2Parts : kind 2, moves [] -/
noncomputable def spec_l2Parts_l4 : List V → VH → Option (Option Nat × List V × VH) := roundV (vb.ctx cv lpW') (vb.b.ann 87) (vb.takes 87) ⟨⟨[0, 1, 5, 6, 7], [], []⟩, [(.exit 0, ⟨[0, 5, 6], [], []⟩)]⟩ (loopIn Tryz.f87 4)
theorem spec_l2Parts_l4_eq (v0 v1 v2 v3 v4 : V) (H : VH) : spec_l2Parts_l4 [v0, v1, v2, v3, v4] H =
  (vLenSV v0).bind fun x11_7 =>
  (vBinV (.int .i64) .lss v4 x11_7).bind fun x12_8 =>
  ifVV x12_8 (
  (id (
  (vIndexSV (strip v0) (strip v4)).bind fun x17_11 =>
  (vBinV (.int .u8) .eql x17_11 v1).bind fun x19_13 =>
  ifVV x19_13 (
  (vSliceSV (strip (strip v0)) (some v3) (some (strip (strip v4)))).bind fun x24_18 =>
  (vOneV x24_18).bind fun y20 =>
  (ownV v2).bind fun s22 =>
  (appV false 1 16 s22 (.sl true [[y20]])).bind fun x26_21 =>
  (vBinV (.int .i64) .add (strip (strip (strip v4))) (.int .i64 1)).bind fun x28_25 =>
  some (0, [(strip (strip (strip v0))), (strip v1), x26_21, x28_25, (strip (strip (strip (strip v4))))], H)) (
  some (0, [(strip (strip v0)), (strip v1), v2, v3, (strip (strip v4))], H)) : Option (Nat × List V × VH))).bind fun r27 =>
  inN r27.1 [
  gotV 5 r27.2.1 fun v28 =>
  (vBinV (.int .i64) .add (v28 4) (.int .i64 1)).bind fun x14_30 =>
  some (none, [(v28 0), (v28 1), (v28 2), (v28 3), x14_30], r27.2.2)]) (
  some (some 0, [(strip v0), v2, v3], H)) := by kernel_rfl
theorem spec_l2Parts_eq (a0 a1 : V) (H : VH) : cv id_spec_l2Parts [a0, a1] H =
  (lpW' spec_l2Parts_l4 [a0, a1, (.sl true []), (.int .i64 0), (.int .i64 0)] H).bind fun r32 =>
  inN r32.1 [
  gotV 3 r32.2.1 fun v33 =>
  (vSliceSV (v33 0) (some (v33 2)) none).bind fun x32_37 =>
  (vOneV x32_37).bind fun y39 =>
  (ownV (v33 1)).bind fun s41 =>
  (appV false 1 16 s41 (.sl true [[y39]])).bind fun x34_40 =>
  some (x34_40, r32.2.2)] := (callV_eq vb _ _ _ rfl).trans (by kernel_rfl)

/-! loop.example/mailwire/spec.AtomValid : kind 1, moves [] -/
noncomputable def spec_AtomValid_l2 : List V → VH → Option (Option Nat × List V × VH) := roundV (vb.ctx cv lpW') (vb.b.ann 119) (vb.takes 119) ⟨⟨[0, 3], [], []⟩, [(.exit 0, ⟨[0], [], []⟩), (.ret, ⟨[2], [], []⟩)]⟩ (loopIn Tryz.f119 2)
theorem spec_AtomValid_l2_eq (v0 v1 : V) (H : VH) : spec_AtomValid_l2 [v0, v1] H =
  (id (
  (vLenSV v0).bind fun x6_4 =>
  (vBinV (.int .i64) .lss v1 x6_4).bind fun x7_5 =>
  ifGV x7_5 (
  (vBinV (.int .i64) .leq (strip v1) (.int .i64 40)).bind fun x10_8 =>
  ifVV x10_8 (
  some (0, [(strip v0), (strip (strip v1))], H)) (
  some (1, [(strip v0)], H))) (
  some (1, [(strip v0)], H)) : Option (Nat × List V × VH))).bind fun r11 =>
  inN r11.1 [
  gotV 2 r11.2.1 fun v12 =>
  (vIndexSV (v12 0) (v12 1)).bind fun x16_15 =>
  (qc id_spec_l1Atom [(frz r11.2.2 x16_15)]).bind fun x17_16 =>
  (vUnV .not x17_16).bind fun x18_17 =>
  ifVV x18_17 (
  some (some 1, [(.bool false)], r11.2.2)) (
  (vBinV (.int .i64) .add (strip (v12 1)) (.int .i64 1)).bind fun x13_20 =>
  some (none, [(strip (v12 0)), x13_20], r11.2.2)),
  gotV 1 r11.2.1 fun v22 =>
  some (some 0, [(v22 0)], r11.2.2)] := by kernel_rfl
theorem spec_AtomValid_eq (a0 : V) (H : VH) : cv id_spec_AtomValid [a0] H =
  (lpW' spec_AtomValid_l2 [a0, (.int .i64 0)] H).bind fun r23 =>
  inN r23.1 [
  gotV 1 r23.2.1 fun v24 =>
  (vLenSV (v24 0)).bind fun x20_26 =>
  (vBinV (.int .i64) .geq x20_26 (.int .i64 1)).bind fun x21_27 =>
  ifGV x21_27 (
  (vLenSV (strip (v24 0))).bind fun x24_30 =>
  (vBinV (.int .i64) .leq x24_30 (.int .i64 40)).bind fun x25_31 =>
  some (x25_31, r23.2.2)) (
  some ((.bool false), r23.2.2)),
  gotV 1 r23.2.1 fun v36 =>
  some ((v36 0), r23.2.2)] := (callV_eq vb _ _ _ rfl).trans (by kernel_rfl)

/-! loop.example/mailwire/spec.l1Atom : kind 1, moves [] -/
noncomputable def spec_l1Atom_l2 : List V → VH → Option (Option Nat × List V × VH) := roundV (vb.ctx cv lpW') (vb.b.ann 120) (vb.takes 120) ⟨⟨[0, 3], [], []⟩, [(.exit 0, ⟨[0], [], []⟩), (.ret, ⟨[2], [], []⟩)]⟩ (loopIn Tryz.f120 2)
theorem spec_l1Atom_l2_eq (v0 v1 : V) (H : VH) : spec_l1Atom_l2 [v0, v1] H =
  (vBinV (.int .i64) .lss v1 (.int .i64 19)).bind fun x5_3 =>
  ifVV x5_3 (
  (vIndexSV (.str [33, 35, 36, 37, 38, 39, 42, 43, 45, 47, 61, 63, 94, 95, 96, 123, 124, 125, 126]) (strip v1)).bind fun x10_6 =>
  (vBinV (.int .u8) .eql v0 x10_6).bind fun x11_7 =>
  ifVV x11_7 (
  some (some 1, [(.bool true)], H)) (
  (vBinV (.int .i64) .add (strip (strip v1)) (.int .i64 1)).bind fun x7_10 =>
  some (none, [(strip v0), x7_10], H))) (
  some (some 0, [v0], H)) := by kernel_rfl
theorem spec_l1Atom_eq (a0 : V) (H : VH) : cv id_spec_l1Atom [a0] H =
  (lpW' spec_l1Atom_l2 [a0, (.int .i64 0)] H).bind fun r12 =>
  inN r12.1 [
  gotV 1 r12.2.1 fun v13 =>
  (qc id_spec_l1Letter [(frz r12.2.2 (v13 0))]).bind fun x13_15 =>
  some (x13_15, r12.2.2),
  gotV 1 r12.2.1 fun v17 =>
  some ((v17 0), r12.2.2)] := (callV_eq vb _ _ _ rfl).trans (by kernel_rfl)

/-! loop.example/mailwire/spec.l1Letter : kind 1, moves [] -/
theorem spec_l1Letter_eq (a0 : V) (H : VH) : cv id_spec_l1Letter [a0] H =
  (vBinV (.int .u8) .geq a0 (.int .u8 97)).bind fun x4_2 =>
  ifGV x4_2 (
  (vBinV (.int .u8) .leq (strip a0) (.int .u8 122)).bind fun x7_5 =>
  ifGV x7_5 (
  some ((.bool true), H)) (
  (vBinV (.int .u8) .geq (strip (strip a0)) (.int .u8 65)).bind fun x11_13 =>
  ifGV x11_13 (
  (vBinV (.int .u8) .leq (strip (strip (strip a0))) (.int .u8 90)).bind fun x14_16 =>
  ifGV x14_16 (
  some ((.bool true), H)) (
  (vBinV (.int .u8) .geq (strip (strip (strip (strip a0)))) (.int .u8 48)).bind fun x19_23 =>
  ifGV x19_23 (
  (vBinV (.int .u8) .leq (strip (strip (strip (strip (strip a0))))) (.int .u8 57)).bind fun x22_26 =>
  some (x22_26, H)) (
  some ((.bool false), H)))) (
  (vBinV (.int .u8) .geq (strip (strip (strip a0))) (.int .u8 48)).bind fun x19_37 =>
  ifGV x19_37 (
  (vBinV (.int .u8) .leq (strip (strip (strip (strip a0)))) (.int .u8 57)).bind fun x22_40 =>
  some (x22_40, H)) (
  some ((.bool false), H))))) (
  (vBinV (.int .u8) .geq (strip a0) (.int .u8 65)).bind fun x11_50 =>
  ifGV x11_50 (
  (vBinV (.int .u8) .leq (strip (strip a0)) (.int .u8 90)).bind fun x14_53 =>
  ifGV x14_53 (
  some ((.bool true), H)) (
  (vBinV (.int .u8) .geq (strip (strip (strip a0))) (.int .u8 48)).bind fun x19_60 =>
  ifGV x19_60 (
  (vBinV (.int .u8) .leq (strip (strip (strip (strip a0)))) (.int .u8 57)).bind fun x22_63 =>
  some (x22_63, H)) (
  some ((.bool false), H)))) (
  (vBinV (.int .u8) .geq (strip (strip a0)) (.int .u8 48)).bind fun x19_74 =>
  ifGV x19_74 (
  (vBinV (.int .u8) .leq (strip (strip (strip a0))) (.int .u8 57)).bind fun x22_77 =>
  some (x22_77, H)) (
  some ((.bool false), H)))) := (callV_eq vb _ _ _ rfl).trans (by kernel_rfl)

/-! loop.example/mailwire/spec.l2Domain : kind 1, moves [] -/
noncomputable def spec_l2Domain_l9 : List V → VH → Option (Option Nat × List V × VH) := roundV (vb.ctx cv lpW') (vb.b.ann 65) (vb.takes 65) ⟨⟨[0, 3, 4, 5, 6], [], []⟩, [(.exit 2, ⟨[0, 3, 4], [], []⟩), (.ret, ⟨[2], [], []⟩)]⟩ (loopIn Tryz.f65 9)
noncomputable def spec_l2Domain_l3 : List V → VH → Option (Option Nat × List V × VH) := roundV (vb.ctx cv lpW') (vb.b.ann 65) (vb.takes 65) ⟨⟨[0, 3, 4], [], []⟩, [(.exit 0, ⟨[0], [], []⟩), (.ret, ⟨[2], [], []⟩)]⟩ (loopIn Tryz.f65 3)
theorem spec_l2Domain_l9_eq (v0 v1 v2 v3 v4 : V) (H : VH) : spec_l2Domain_l9 [v0, v1, v2, v3, v4] H =
  (vLenSV v3).bind fun x36_43 =>
  (vBinV (.int .i64) .lss v4 x36_43).bind fun x37_44 =>
  ifVV x37_44 (
  (id (
  (vIndexSV (strip v3) (strip v4)).bind fun x42_47 =>
  (qc id_spec_l1Letter [(frz H x42_47)]).bind fun x43_48 =>
  (vUnV .not x43_48).bind fun x44_49 =>
  ifGV x44_49 (
  (vIndexSV (strip (strip v3)) (strip (strip v4))).bind fun x48_53 =>
  (vBinV (.int .u8) .neq x48_53 (.int .u8 45)).bind fun x49_54 =>
  ifGV x49_54 (
  some (0, [(.bool false)], H)) (
  (vIndexSV (strip (strip (strip v3))) (strip (strip (strip v4)))).bind fun x54_61 =>
  (vBinV (.int .u8) .geq x54_61 (.int .u8 65)).bind fun x55_62 =>
  ifGV x55_62 (
  (vIndexSV (strip (strip (strip (strip v3)))) (strip (strip (strip (strip v4))))).bind fun x59_66 =>
  (vBinV (.int .u8) .leq x59_66 (.int .u8 90)).bind fun x60_67 =>
  ifVV x60_67 (
  some (0, [(.bool false)], H)) (
  some (1, [v0, v1, v2, (strip (strip (strip (strip (strip v3))))), (strip (strip (strip (strip (strip v4)))))], H))) (
  some (1, [v0, v1, v2, (strip (strip (strip (strip v3)))), (strip (strip (strip (strip v4))))], H)))) (
  (vIndexSV (strip (strip v3)) (strip (strip v4))).bind fun x54_77 =>
  (vBinV (.int .u8) .geq x54_77 (.int .u8 65)).bind fun x55_78 =>
  ifGV x55_78 (
  (vIndexSV (strip (strip (strip v3))) (strip (strip (strip v4)))).bind fun x59_82 =>
  (vBinV (.int .u8) .leq x59_82 (.int .u8 90)).bind fun x60_83 =>
  ifVV x60_83 (
  some (0, [(.bool false)], H)) (
  some (1, [v0, v1, v2, (strip (strip (strip (strip v3)))), (strip (strip (strip (strip v4))))], H))) (
  some (1, [v0, v1, v2, (strip (strip (strip v3))), (strip (strip (strip v4)))], H))) : Option (Nat × List V × VH))).bind fun r89 =>
  inN r89.1 [
  gotV 1 r89.2.1 fun v90 =>
  some (some 1, [(v90 0)], r89.2.2),
  gotV 5 r89.2.1 fun v91 =>
  (vBinV (.int .i64) .add (v91 4) (.int .i64 1)).bind fun x39_93 =>
  some (none, [(v91 0), (v91 1), (v91 2), (v91 3), x39_93], r89.2.2)]) (
  some (some 0, [v0, v1, v2], H)) := by kernel_rfl
theorem spec_l2Domain_l3_eq (v0 v1 v2 : V) (H : VH) : spec_l2Domain_l3 [v0, v1, v2] H =
  (vLenVV (strip v1)).bind fun x11_7 =>
  (vBinV (.int .i64) .lss v2 x11_7).bind fun x12_8 =>
  ifVV x12_8 (
  (id (
  (vIdxV 1 (strip v1) (strip v2)).bind fun x17_11 =>
  (ldO globB false false 1 x17_11 H).bind fun r13 =>
  (id (
  (vBinV .str .eql r13.1 (.str [])).bind fun x20_16 =>
  ifGV x20_16 (
  some (0, [(.bool false)], r13.2)) (
  (vIndexSV (strip r13.1) (.int .i64 0)).bind fun x23_23 =>
  (vBinV (.int .u8) .eql x23_23 (.int .u8 45)).bind fun x24_24 =>
  ifGV x24_24 (
  some (0, [(.bool false)], r13.2)) (
  (vLenSV (strip (strip (strip r13.1)))).bind fun x29_31 =>
  (vBinV (.int .i64) .sub x29_31 (.int .i64 1)).bind fun x30_32 =>
  (vIndexSV (strip (strip r13.1)) x30_32).bind fun x31_33 =>
  (vBinV (.int .u8) .eql x31_33 (.int .u8 45)).bind fun x32_34 =>
  ifVV x32_34 (
  some (0, [(.bool false)], r13.2)) (
  some (1, [v0, v1, (strip (strip v2)), (strip (strip (strip (strip r13.1))))], r13.2)))) : Option (Nat × List V × VH))).bind fun r37 =>
  inN r37.1 [
  gotV 1 r37.2.1 fun v38 =>
  some (0, [(v38 0)], r37.2.2),
  gotV 4 r37.2.1 fun v39 =>
  (lpW' spec_l2Domain_l9 [(v39 0), (v39 1), (v39 2), (v39 3), (.int .i64 0)] r37.2.2).bind fun r95 =>
  inN r95.1 [
  gotV 3 r95.2.1 fun v96 =>
  some (1, [(v96 0), (v96 1), (v96 2)], r95.2.2),
  gotV 1 r95.2.1 fun v97 =>
  some (0, [(v97 0)], r95.2.2)]] : Option (Nat × List V × VH))).bind fun r98 =>
  inN r98.1 [
  gotV 1 r98.2.1 fun v99 =>
  some (some 1, [(v99 0)], r98.2.2),
  gotV 3 r98.2.1 fun v100 =>
  (vBinV (.int .i64) .add (v100 2) (.int .i64 1)).bind fun x14_102 =>
  some (none, [(v100 0), (v100 1), x14_102], r98.2.2)]) (
  some (some 0, [v0], H)) := by kernel_rfl
theorem spec_l2Domain_eq (a0 : V) (H : VH) : cv id_spec_l2Domain [a0] H =
  (pc id_spec_l2Parts [(frz H a0), (frz H (.int .u8 46))]).bind fun x8_2 =>
  (lpW' spec_l2Domain_l3 [(strip a0), (strip x8_2), (.int .i64 0)] H).bind fun r104 =>
  inN r104.1 [
  gotV 1 r104.2.1 fun v105 =>
  (vLenSV (v105 0)).bind fun x64_107 =>
  (vBinV (.int .i64) .leq x64_107 (.int .i64 40)).bind fun x65_108 =>
  some (x65_108, r104.2.2),
  gotV 1 r104.2.1 fun v110 =>
  some ((v110 0), r104.2.2)] := (callV_eq vb _ _ _ rfl).trans (by kernel_rfl)

/-! loop.example/mailwire/spec.MailValid : kind 1, moves [] -/
theorem spec_MailValid_eq (a0 : V) (H : VH) : cv id_spec_MailValid [a0] H =
  (aggNV 3 a0).bind fun c1 =>
  (qc id_spec_l10Draft [(frz H (.agg [(strip (c1.getD 0 .nilp)), (strip (c1.getD 1 .nilp)), (strip (c1.getD 2 .nilp))]))]).bind fun x4_4 =>
  ifGV x4_4 (
  (vLenVV (strip (c1.getD 1 .nilp))).bind fun x8_8 =>
  (vBinV (.int .i64) .gtr x8_8 (.int .i64 0)).bind fun x9_9 =>
  ifGV x9_9 (
  (vLenVV (strip (c1.getD 2 .nilp))).bind fun x14_14 =>
  (vBinV (.int .i64) .leq x14_14 (.int .i64 30)).bind fun x15_15 =>
  some (x15_15, H)) (
  some ((.bool false), H))) (
  some ((.bool false), H)) := (callV_eq vb _ _ _ rfl).trans (by kernel_rfl)

/-! loop.example/mailwire/spec.l10Copy : kind 0, moves [0] -/
noncomputable def spec_l10Copy_l3 : List V → VH → Option (Option Nat × List V × VH) := roundV (vb.ctx cv lpW') (vb.b.ann 33) (vb.takes 33) ⟨⟨[3, 4], [(1, (1, 0)), (2, (2, 0))], [(1, 6), (2, 6)]⟩, [(.exit 0, ⟨[3], [(2, (2, 0))], [(2, 6)]⟩)]⟩ (loopIn Tryz.f33 3)
theorem spec_l10Copy_l3_eq (v0 v1 v2 v3 v4 v5 v6 v7 v8 v9 v10 v11 v12 v13 : V) (H : VH) : spec_l10Copy_l3 [v0, v1, v2, v3, v4, v5, v6, v7, v8, v9, v10, v11, v12, v13] H =
  (vLenVV (strip v7)).bind fun x16_21 =>
  (vBinV (.int .i64) .lss v1 x16_21).bind fun x17_22 =>
  ifVV x17_22 (
  (vOffV v0 5).bind fun x20_23 =>
  (ldO globB true false 1 x20_23 H).bind fun r25 =>
  (vIdxV 3 (strip v7) (strip v1)).bind fun x25_29 =>
  (ldO globB false true 3 x25_29 r25.2).bind fun r31 =>
  (pc id_spec_l10Mail [(frz r31.2 r31.1)]).bind fun x27_32 =>
  (aggNV 3 x27_32).bind fun c34 =>
  (ownV r25.1).bind fun s36 =>
  (appV false 3 64 s36 (.sl true [[(c34.getD 0 .nilp), (c34.getD 1 .nilp), (c34.getD 2 .nilp)]])).bind fun x29_35 =>
  (vOffV v0 5).bind fun x30_37 =>
  (vOneV x29_35).bind fun y39 =>
  (stO x30_37 [y39] r31.2).bind fun H40 =>
  (vBinV (.int .i64) .add (strip (strip v1)) (.int .i64 1)).bind fun x19_42 =>
  some (none, [v0, x19_42, v2, v3, v4, v5, v6, v7, v8, v9, v10, v11, v12, v13], H40)) (
  some (some 0, [v0, v8, v9, v10, v11, v12, v13], H)) := by kernel_rfl
theorem spec_l10Copy_eq (a0 : V) (H : VH) : cv id_spec_l10Copy [a0] H =
  (aggNV 6 a0).bind fun c1 =>
  (pc id_spec_l10Mail [(frz H (.agg [(strip (c1.getD 2 .nilp)), (strip (c1.getD 3 .nilp)), (strip (c1.getD 4 .nilp))]))]).bind fun x11_9 =>
  (vOneV (strip (c1.getD 0 .nilp))).bind fun y11 =>
  (vOneV (strip (c1.getD 1 .nilp))).bind fun y12 =>
  (aggNV 3 x11_9).bind fun c13 =>
  (stO (.ptr H.length 0) [y11, y12, (c13.getD 0 .nilp), (c13.getD 1 .nilp), (c13.getD 2 .nilp), (.sl true [])] (H ++ [[(.int .i64 0), (.str []), (.str []), (.sl true []), (.sl true []), (.sl true [])]])).bind fun H16 =>
  (lpW' spec_l10Copy_l3 [(.ptr H.length 0), (.int .i64 0), (c1.getD 0 .nilp), (c1.getD 1 .nilp), (c1.getD 2 .nilp), (c1.getD 3 .nilp), (c1.getD 4 .nilp), (c1.getD 5 .nilp), (.int .i64 0), (.str []), (.str []), (.sl true []), (.sl true []), (.sl true [])] H16).bind fun r44 =>
  inN r44.1 [
  gotV 7 r44.2.1 fun v45 =>
  (ldO globB true true 6 (v45 0) r44.2.2).bind fun r47 =>
  (aggNV 6 r47.1).bind fun c49 =>
  some ((.agg [(c49.getD 0 .nilp), (c49.getD 1 .nilp), (c49.getD 2 .nilp), (c49.getD 3 .nilp), (c49.getD 4 .nilp), (c49.getD 5 .nilp)]), r47.2)] := (callV_eq vb _ _ _ rfl).trans (by kernel_rfl)

/-! loop.example/mailwire/spec.l10Mail : kind 2, moves [] -/
theorem spec_l10Mail_eq (a0 : V) (H : VH) : cv id_spec_l10Mail [a0] H =
  (aggNV 3 a0).bind fun c1 =>
  (appV false 1 16 [] (c1.getD 1 .nilp)).bind fun x8_8 =>
  (appV false 1 16 [] (c1.getD 2 .nilp)).bind fun x12_12 =>
  (vOneV (strip (c1.getD 0 .nilp))).bind fun y14 =>
  (vOneV x8_8).bind fun y15 =>
  (vOneV x12_12).bind fun y16 =>
  some ((.agg [y14, y15, y16]), H) := (callV_eq vb _ _ _ rfl).trans (by kernel_rfl)

/-! loop.example/mailwire/spec.l10Data : kind 0, moves [0] -/
theorem spec_l10Data_eq (a0 a1 : V) (H : VH) : cv id_spec_l10Data [a0, a1] H =
  (aggNV 6 a0).bind fun c1 =>
  (vBinV .str .neq a1 (.str [46])).bind fun x8_5 =>
  ifVV x8_5 (
  (id (
  (vBinV .str .neq (strip a1) (.str [])).bind fun x10_7 =>
  ifGV x10_7 (
  (vIndexSV (strip (strip a1)) (.int .i64 0)).bind fun x13_10 =>
  (vBinV (.int .u8) .eql x13_10 (.int .u8 46)).bind fun x14_11 =>
  ifVV x14_11 (
  (vSliceSV (strip (strip (strip a1))) (some (.int .i64 1)) none).bind fun x17_14 =>
  some (0, [x17_14, (c1.getD 0 .nilp), (c1.getD 1 .nilp), (c1.getD 2 .nilp), (c1.getD 3 .nilp), (c1.getD 4 .nilp), (c1.getD 5 .nilp), (.int .i64 0), (.str []), (.str []), (.sl true []), (.sl true []), (.sl true [])], H)) (
  some (0, [(strip (strip (strip a1))), (c1.getD 0 .nilp), (c1.getD 1 .nilp), (c1.getD 2 .nilp), (c1.getD 3 .nilp), (c1.getD 4 .nilp), (c1.getD 5 .nilp), (.int .i64 0), (.str []), (.str []), (.sl true []), (.sl true []), (.sl true [])], H))) (
  some (0, [(strip (strip a1)), (c1.getD 0 .nilp), (c1.getD 1 .nilp), (c1.getD 2 .nilp), (c1.getD 3 .nilp), (c1.getD 4 .nilp), (c1.getD 5 .nilp), (.int .i64 0), (.str []), (.str []), (.sl true []), (.sl true []), (.sl true [])], H)) : Option (Nat × List V × VH))).bind fun r17 =>
  inN r17.1 [
  gotV 13 r17.2.1 fun v18 =>
  (id (
  (vLenVV (strip (v18 5))).bind fun x21_22 =>
  (vBinV (.int .i64) .leq x21_22 (.int .i64 30)).bind fun x22_23 =>
  ifVV x22_23 (
  (vOneV (v18 0)).bind fun y29 =>
  (ownV (v18 5)).bind fun s31 =>
  (appV false 1 16 s31 (.sl true [[y29]])).bind fun x28_30 =>
  (vOneV x28_30).bind fun y35 =>
  some (0, [(v18 1), (v18 2), (v18 3), (v18 4), y35, (v18 6), (v18 7), (v18 8), (v18 9), (v18 10), (v18 11), (v18 12)], r17.2.2)) (
  some (0, [(v18 1), (v18 2), (v18 3), (v18 4), (v18 5), (v18 6), (v18 7), (v18 8), (v18 9), (v18 10), (v18 11), (v18 12)], r17.2.2)) : Option (Nat × List V × VH))).bind fun r36 =>
  inN r36.1 [
  gotV 12 r36.2.1 fun v37 =>
  some ((.tup [(.agg [(v37 0), (v37 1), (v37 2), (v37 3), (v37 4), (v37 5)]), (.int .i64 0)]), r36.2.2)]]) (
  (vLenVV (strip (c1.getD 4 .nilp))).bind fun x40_52 =>
  (vBinV (.int .i64) .gtr x40_52 (.int .i64 30)).bind fun x41_53 =>
  ifVV x41_53 (
  some ((.tup [(.agg [(.int .i64 1), (c1.getD 1 .nilp), (.str []), (.sl true []), (.sl true []), (c1.getD 5 .nilp)]), (.int .i64 552)]), H)) (
  (vLenVV (strip (c1.getD 5 .nilp))).bind fun x46_60 =>
  (vBinV (.int .i64) .eql x46_60 (.int .i64 5)).bind fun x47_61 =>
  ifVV x47_61 (
  some ((.tup [(.agg [(.int .i64 1), (c1.getD 1 .nilp), (.str []), (.sl true []), (.sl true []), (c1.getD 5 .nilp)]), (.int .i64 452)]), H)) (
  (ownV (c1.getD 5 .nilp)).bind fun s71 =>
  (appV false 3 64 s71 (.sl true [[(c1.getD 2 .nilp), (c1.getD 3 .nilp), (c1.getD 4 .nilp)]])).bind fun x53_70 =>
  (vOneV x53_70).bind fun y74 =>
  some ((.tup [(.agg [(.int .i64 1), (c1.getD 1 .nilp), (.str []), (.sl true []), (.sl true []), y74]), (.int .i64 250)]), H)))) := (callV_eq vb _ _ _ rfl).trans (by kernel_rfl)

/-! loop.example/mailwire/spec.l10Command : kind 0, moves [0] -/
theorem spec_l10Command_eq (a0 a1 : V) (H : VH) : cv id_spec_l10Command [a0, a1] H =
  (aggNV 6 a0).bind fun c1 =>
  (qc id_spec_l2Cut [(frz H a1), (frz H (.int .u8 32))]).bind fun x11_5 =>
  (vExtV x11_5 0).bind fun x12_7 =>
  (vExtV x11_5 1).bind fun x13_8 =>
  (vExtV x11_5 2).bind fun x14_9 =>
  (qc id_spec_LowerText [(frz H (strip x12_7))]).bind fun x16_14 =>
  (vBinV .str .eql x16_14 (.str [104, 101, 108, 111])).bind fun x18_15 =>
  ifVV x18_15 (
  (pc id_spec_l10Hello [(frz H (.agg [(strip (c1.getD 0 .nilp)), (strip (c1.getD 1 .nilp)), (strip (c1.getD 2 .nilp)), (strip (c1.getD 3 .nilp)), (strip (c1.getD 4 .nilp)), (strip (c1.getD 5 .nilp))])), (frz H (strip a1))]).bind fun x21_19 =>
  (vExtV x21_19 0).bind fun x22_20 =>
  (vExtV (stripAt 0 x21_19) 1).bind fun x23_21 =>
  (aggNV 6 x22_20).bind fun c23 =>
  some ((.tup [(.agg [(c23.getD 0 .nilp), (c23.getD 1 .nilp), (c23.getD 2 .nilp), (c23.getD 3 .nilp), (c23.getD 4 .nilp), (c23.getD 5 .nilp)]), (strip x23_21)]), H)) (
  (vBinV .str .eql x16_14 (.str [109, 97, 105, 108])).bind fun x25_25 =>
  ifVV x25_25 (
  (pc id_spec_l10From [(frz H (.agg [(strip (c1.getD 0 .nilp)), (strip (c1.getD 1 .nilp)), (strip (c1.getD 2 .nilp)), (strip (c1.getD 3 .nilp)), (strip (c1.getD 4 .nilp)), (strip (c1.getD 5 .nilp))])), (frz H (strip a1))]).bind fun x28_29 =>
  (vExtV x28_29 0).bind fun x29_30 =>
  (vExtV (stripAt 0 x28_29) 1).bind fun x30_31 =>
  (aggNV 6 x29_30).bind fun c33 =>
  some ((.tup [(.agg [(c33.getD 0 .nilp), (c33.getD 1 .nilp), (c33.getD 2 .nilp), (c33.getD 3 .nilp), (c33.getD 4 .nilp), (c33.getD 5 .nilp)]), (strip x30_31)]), H)) (
  (vBinV .str .eql x16_14 (.str [114, 99, 112, 116])).bind fun x32_35 =>
  ifVV x32_35 (
  (cv id_spec_l10To [(.agg [(c1.getD 0 .nilp), (c1.getD 1 .nilp), (c1.getD 2 .nilp), (c1.getD 3 .nilp), (c1.getD 4 .nilp), (c1.getD 5 .nilp)]), (strip (strip a1))] H).bind fun r40 =>
  (vExtV r40.1 0).bind fun x36_41 =>
  (vExtV (stripAt 0 r40.1) 1).bind fun x37_42 =>
  (aggNV 6 x36_41).bind fun c44 =>
  some ((.tup [(.agg [(c44.getD 0 .nilp), (c44.getD 1 .nilp), (c44.getD 2 .nilp), (c44.getD 3 .nilp), (c44.getD 4 .nilp), (c44.getD 5 .nilp)]), (strip x37_42)]), r40.2)) (
  (qc id_spec_LowerText [(frz H (strip a1))]).bind fun x39_47 =>
  (vBinV .str .eql x39_47 (.str [100, 97, 116, 97])).bind fun x41_48 =>
  ifVV x41_48 (
  (vBinV (.int .i64) .neq (strip (c1.getD 0 .nilp)) (.int .i64 3)).bind fun x44_52 =>
  ifVV x44_52 (
  some ((.tup [(.agg [(c1.getD 0 .nilp), (c1.getD 1 .nilp), (c1.getD 2 .nilp), (c1.getD 3 .nilp), (c1.getD 4 .nilp), (c1.getD 5 .nilp)]), (.int .i64 503)]), H)) (
  some ((.tup [(.agg [(.int .i64 4), (c1.getD 1 .nilp), (c1.getD 2 .nilp), (c1.getD 3 .nilp), (c1.getD 4 .nilp), (c1.getD 5 .nilp)]), (.int .i64 354)]), H))) (
  (vBinV .str .eql x39_47 (.str [114, 115, 101, 116])).bind fun x49_61 =>
  ifVV x49_61 (
  (id (
  (vBinV (.int .i64) .neq (strip (c1.getD 0 .nilp)) (.int .i64 0)).bind fun x52_65 =>
  ifVV x52_65 (
  some (0, [(.int .i64 1), (c1.getD 1 .nilp), (c1.getD 2 .nilp), (c1.getD 3 .nilp), (c1.getD 4 .nilp), (c1.getD 5 .nilp), (.int .i64 0), (.str []), (.str []), (.sl true []), (.sl true []), (.sl true [])], H)) (
  some (0, [(c1.getD 0 .nilp), (c1.getD 1 .nilp), (c1.getD 2 .nilp), (c1.getD 3 .nilp), (c1.getD 4 .nilp), (c1.getD 5 .nilp), (.int .i64 0), (.str []), (.str []), (.sl true []), (.sl true []), (.sl true [])], H)) : Option (Nat × List V × VH))).bind fun r68 =>
  inN r68.1 [
  gotV 12 r68.2.1 fun v69 =>
  some ((.tup [(.agg [(v69 0), (v69 1), (.str []), (.sl true []), (.sl true []), (v69 5)]), (.int .i64 250)]), r68.2.2)]) (
  (vBinV .str .eql x39_47 (.str [110, 111, 111, 112])).bind fun x58_76 =>
  ifVV x58_76 (
  some ((.tup [(.agg [(c1.getD 0 .nilp), (c1.getD 1 .nilp), (c1.getD 2 .nilp), (c1.getD 3 .nilp), (c1.getD 4 .nilp), (c1.getD 5 .nilp)]), (.int .i64 250)]), H)) (
  (vBinV .str .eql x39_47 (.str [113, 117, 105, 116])).bind fun x61_81 =>
  ifVV x61_81 (
  some ((.tup [(.agg [(.int .i64 5), (c1.getD 1 .nilp), (.str []), (.sl true []), (.sl true []), (c1.getD 5 .nilp)]), (.int .i64 221)]), H)) (
  some ((.tup [(.agg [(c1.getD 0 .nilp), (c1.getD 1 .nilp), (c1.getD 2 .nilp), (c1.getD 3 .nilp), (c1.getD 4 .nilp), (c1.getD 5 .nilp)]), (.int .i64 500)]), H)))))))) := (callV_eq vb _ _ _ rfl).trans (by kernel_rfl)

/-! loop.example/mailwire/spec.l10Hello : kind 2, moves [] -/
theorem spec_l10Hello_eq (a0 a1 : V) (H : VH) : cv id_spec_l10Hello [a0, a1] H =
  (aggNV 6 a0).bind fun c1 =>
  (id (
  (vLenSV a1).bind fun x7_5 =>
  (vBinV (.int .i64) .lss x7_5 (.int .i64 6)).bind fun x8_6 =>
  ifGV x8_6 (
  some (0, [(.int .i64 501), (c1.getD 0 .nilp), (c1.getD 1 .nilp), (c1.getD 2 .nilp), (c1.getD 3 .nilp), (c1.getD 4 .nilp), (c1.getD 5 .nilp)], H)) (
  (vIndexSV (strip a1) (.int .i64 4)).bind fun x11_15 =>
  (vBinV (.int .u8) .neq x11_15 (.int .u8 32)).bind fun x12_16 =>
  ifGV x12_16 (
  some (0, [(.int .i64 501), (c1.getD 0 .nilp), (c1.getD 1 .nilp), (c1.getD 2 .nilp), (c1.getD 3 .nilp), (c1.getD 4 .nilp), (c1.getD 5 .nilp)], H)) (
  (vSliceSV (strip (strip a1)) (some (.int .i64 5)) none).bind fun x16_24 =>
  (qc id_spec_LowerText [(frz H x16_24)]).bind fun x17_25 =>
  (qc id_spec_l2Domain [(frz H x17_25)]).bind fun x18_26 =>
  (vUnV .not x18_26).bind fun x19_27 =>
  ifVV x19_27 (
  some (0, [(.int .i64 501), (c1.getD 0 .nilp), (c1.getD 1 .nilp), (c1.getD 2 .nilp), (c1.getD 3 .nilp), (c1.getD 4 .nilp), (c1.getD 5 .nilp)], H)) (
  some (1, [(strip (strip (strip a1))), (c1.getD 0 .nilp), (c1.getD 1 .nilp), (c1.getD 2 .nilp), (c1.getD 3 .nilp), (c1.getD 4 .nilp), (c1.getD 5 .nilp), (.int .i64 0), (.str []), (.str []), (.sl true []), (.sl true []), (.sl true [])], H)))) : Option (Nat × List V × VH))).bind fun r32 =>
  inN r32.1 [
  gotV 7 r32.2.1 fun v33 =>
  some ((.tup [(.agg [(v33 1), (v33 2), (v33 3), (v33 4), (v33 5), (v33 6)]), (v33 0)]), r32.2.2),
  gotV 13 r32.2.1 fun v34 =>
  (vSliceSV (v34 0) (some (.int .i64 5)) none).bind fun x23_36 =>
  (qc id_spec_LowerText [(frz r32.2.2 x23_36)]).bind fun x24_37 =>
  (vOneV x24_37).bind fun y40 =>
  some ((.tup [(.agg [(.int .i64 1), y40, (.str []), (.sl true []), (.sl true []), (v34 6)]), (.int .i64 250)]), r32.2.2)] := (callV_eq vb _ _ _ rfl).trans (by kernel_rfl)

/-! loop.example/mailwire/spec.l10From : kind 2, moves [] -/
theorem spec_l10From_eq (a0 a1 : V) (H : VH) : cv id_spec_l10From [a0, a1] H =
  (aggNV 6 a0).bind fun c1 =>
  (qc id_spec_l10Path [(frz H a1), (frz H (.str [77, 65, 73, 76, 32, 70, 82, 79, 77, 58]))]).bind fun x10_5 =>
  (vExtV x10_5 0).bind fun x11_7 =>
  (vExtV x10_5 1).bind fun x12_8 =>
  (vUnV .not (strip x12_8)).bind fun x15_12 =>
  ifVV x15_12 (
  some ((.tup [(.agg [(c1.getD 0 .nilp), (c1.getD 1 .nilp), (c1.getD 2 .nilp), (c1.getD 3 .nilp), (c1.getD 4 .nilp), (c1.getD 5 .nilp)]), (.int .i64 501)]), H)) (
  (vBinV (.int .i64) .neq (strip (c1.getD 0 .nilp)) (.int .i64 1)).bind fun x20_19 =>
  ifVV x20_19 (
  some ((.tup [(.agg [(c1.getD 0 .nilp), (c1.getD 1 .nilp), (c1.getD 2 .nilp), (c1.getD 3 .nilp), (c1.getD 4 .nilp), (c1.getD 5 .nilp)]), (.int .i64 503)]), H)) (
  (vOneV (strip x11_7)).bind fun y28 =>
  some ((.tup [(.agg [(.int .i64 2), (c1.getD 1 .nilp), y28, (.sl true []), (.sl true []), (c1.getD 5 .nilp)]), (.int .i64 250)]), H))) := (callV_eq vb _ _ _ rfl).trans (by kernel_rfl)

/-! loop.example/mailwire/spec.l10Path : kind 1, moves [] -/
theorem spec_l10Path_eq (a0 a1 : V) (H : VH) : cv id_spec_l10Path [a0, a1] H =
  (vLenSV a1).bind fun x11_3 =>
  (id (
  (vLenSV a0).bind fun x13_6 =>
  (vBinV (.int .i64) .add x11_3 (.int .i64 2)).bind fun x15_8 =>
  (vBinV (.int .i64) .lss x13_6 x15_8).bind fun x16_9 =>
  ifGV x16_9 (
  some (0, [(.str []), (.bool false)], H)) (
  (vSliceSV (strip a0) none (some (strip x11_3))).bind fun x20_20 =>
  (qc id_spec_SameText [(frz H x20_20), (frz H (strip a1))]).bind fun x22_22 =>
  (vUnV .not x22_22).bind fun x23_23 =>
  ifGV x23_23 (
  some (0, [(.str []), (.bool false)], H)) (
  (vIndexSV (strip (strip a0)) (strip (strip x11_3))).bind fun x28_33 =>
  (vBinV (.int .u8) .neq x28_33 (.int .u8 60)).bind fun x29_34 =>
  ifGV x29_34 (
  some (0, [(.str []), (.bool false)], H)) (
  (vLenSV (strip (strip (strip (strip a0))))).bind fun x34_42 =>
  (vBinV (.int .i64) .sub x34_42 (.int .i64 1)).bind fun x35_43 =>
  (vIndexSV (strip (strip (strip a0))) x35_43).bind fun x36_44 =>
  (vBinV (.int .u8) .neq x36_44 (.int .u8 62)).bind fun x37_45 =>
  ifVV x37_45 (
  some (0, [(.str []), (.bool false)], H)) (
  some (1, [(strip (strip (strip (strip (strip a0))))), (strip (strip (strip x11_3)))], H))))) : Option (Nat × List V × VH))).bind fun r49 =>
  inN r49.1 [
  gotV 2 r49.2.1 fun v50 =>
  some ((.tup [(v50 0), (v50 1)]), r49.2.2),
  gotV 2 r49.2.1 fun v51 =>
  (vBinV (.int .i64) .add (v51 1) (.int .i64 1)).bind fun x41_54 =>
  (vLenSV (strip (v51 0))).bind fun x43_56 =>
  (vBinV (.int .i64) .sub x43_56 (.int .i64 1)).bind fun x44_57 =>
  (vSliceSV (v51 0) (some x41_54) (some x44_57)).bind fun x45_58 =>
  (vBinV .str .eql x45_58 (.str [])).bind fun x47_61 =>
  ifVV x47_61 (
  some ((.tup [(.str []), (.bool true)]), r49.2.2)) (
  (pc id_spec_l2Box [(frz r49.2.2 (strip x45_58))]).bind fun x50_65 =>
  (vExtV x50_65 0).bind fun x51_67 =>
  (vExtV x50_65 1).bind fun x52_68 =>
  (aggNV 3 (strip x51_67)).bind fun c71 =>
  (vBinV .str .add (strip (c71.getD 1 .nilp)) (.str [64])).bind fun x55_75 =>
  (vBinV .str .add x55_75 (strip (c71.getD 2 .nilp))).bind fun x58_78 =>
  some ((.tup [x58_78, (strip x52_68)]), r49.2.2))] := (callV_eq vb _ _ _ rfl).trans (by kernel_rfl)

/-! loop.example/mailwire/spec.SameText : kind 1, moves [] -/
theorem spec_SameText_eq (a0 a1 : V) (H : VH) : cv id_spec_SameText [a0, a1] H =
  (qc id_spec_LowerText [(frz H a0)]).bind fun x6_2 =>
  (qc id_spec_LowerText [(frz H a1)]).bind fun x8_4 =>
  (vBinV .str .eql x6_2 x8_4).bind fun x9_5 =>
  some (x9_5, H) := (callV_eq vb _ _ _ rfl).trans (by kernel_rfl)

/-! loop.example/mailwire/spec.l10To : kind 0, moves [0] -/
theorem spec_l10To_eq (a0 a1 : V) (H : VH) : cv id_spec_l10To [a0, a1] H =
  (aggNV 6 a0).bind fun c1 =>
  (qc id_spec_l10Path [(frz H a1), (frz H (.str [82, 67, 80, 84, 32, 84, 79, 58]))]).bind fun x10_5 =>
  (vExtV x10_5 0).bind fun x11_7 =>
  (vExtV x10_5 1).bind fun x12_8 =>
  (id (
  (vUnV .not (strip x12_8)).bind fun x15_12 =>
  ifGV x15_12 (
  some (0, [(.int .i64 501), (c1.getD 0 .nilp), (c1.getD 1 .nilp), (c1.getD 2 .nilp), (c1.getD 3 .nilp), (c1.getD 4 .nilp), (c1.getD 5 .nilp)], H)) (
  (vBinV .str .eql (strip x11_7) (.str [])).bind fun x18_20 =>
  ifVV x18_20 (
  some (0, [(.int .i64 501), (c1.getD 0 .nilp), (c1.getD 1 .nilp), (c1.getD 2 .nilp), (c1.getD 3 .nilp), (c1.getD 4 .nilp), (c1.getD 5 .nilp)], H)) (
  (vBinV (.int .i64) .neq (strip (c1.getD 0 .nilp)) (.int .i64 2)).bind fun x24_28 =>
  ifGV x24_28 (
  (vBinV (.int .i64) .neq (strip (c1.getD 0 .nilp)) (.int .i64 3)).bind fun x28_32 =>
  ifVV x28_32 (
  some (0, [(.int .i64 503), (c1.getD 0 .nilp), (c1.getD 1 .nilp), (c1.getD 2 .nilp), (c1.getD 3 .nilp), (c1.getD 4 .nilp), (c1.getD 5 .nilp)], H)) (
  (vLenVV (strip (c1.getD 3 .nilp))).bind fun x35_41 =>
  (vBinV (.int .i64) .eql x35_41 (.int .i64 10)).bind fun x36_42 =>
  ifVV x36_42 (
  some (0, [(.int .i64 452), (c1.getD 0 .nilp), (c1.getD 1 .nilp), (c1.getD 2 .nilp), (c1.getD 3 .nilp), (c1.getD 4 .nilp), (c1.getD 5 .nilp)], H)) (
  some (1, [(strip (strip x11_7)), (c1.getD 0 .nilp), (c1.getD 1 .nilp), (c1.getD 2 .nilp), (c1.getD 3 .nilp), (c1.getD 4 .nilp), (c1.getD 5 .nilp), (.int .i64 0), (.str []), (.str []), (.sl true []), (.sl true []), (.sl true [])], H)))) (
  (vLenVV (strip (c1.getD 3 .nilp))).bind fun x35_52 =>
  (vBinV (.int .i64) .eql x35_52 (.int .i64 10)).bind fun x36_53 =>
  ifVV x36_53 (
  some (0, [(.int .i64 452), (c1.getD 0 .nilp), (c1.getD 1 .nilp), (c1.getD 2 .nilp), (c1.getD 3 .nilp), (c1.getD 4 .nilp), (c1.getD 5 .nilp)], H)) (
  some (1, [(strip (strip x11_7)), (c1.getD 0 .nilp), (c1.getD 1 .nilp), (c1.getD 2 .nilp), (c1.getD 3 .nilp), (c1.getD 4 .nilp), (c1.getD 5 .nilp), (.int .i64 0), (.str []), (.str []), (.sl true []), (.sl true []), (.sl true [])], H))))) : Option (Nat × List V × VH))).bind fun r58 =>
  inN r58.1 [
  gotV 7 r58.2.1 fun v59 =>
  some ((.tup [(.agg [(v59 1), (v59 2), (v59 3), (v59 4), (v59 5), (v59 6)]), (v59 0)]), r58.2.2),
  gotV 13 r58.2.1 fun v60 =>
  (vOneV (v60 0)).bind fun y68 =>
  (ownV (v60 4)).bind fun s70 =>
  (appV false 1 16 s70 (.sl true [[y68]])).bind fun x44_69 =>
  (vOneV x44_69).bind fun y74 =>
  some ((.tup [(.agg [(.int .i64 3), (v60 2), (v60 3), y74, (v60 5), (v60 6)]), (.int .i64 250)]), r58.2.2)] := (callV_eq vb _ _ _ rfl).trans (by kernel_rfl)

/-! loop.example/mailwire/spec.l13OwnSession : kind 2, moves [] -/
theorem spec_l13OwnSession_eq (a0 : V) (H : VH) : cv id_spec_l13OwnSession [a0] H =
  (aggNV 6 a0).bind fun c1 =>
  (pc id_spec_l13OwnMail [(frz H (.agg [(strip (c1.getD 2 .nilp)), (strip (c1.getD 3 .nilp)), (strip (c1.getD 4 .nilp))]))]).bind fun x5_5 =>
  (aggNV 3 x5_5).bind fun c8 =>
  (pc id_spec_l13OwnListMail [(frz H (strip (c1.getD 5 .nilp)))]).bind fun x9_11 =>
  (vOneV x9_11).bind fun y14 =>
  some ((.agg [(c1.getD 0 .nilp), (c1.getD 1 .nilp), (c8.getD 0 .nilp), (c8.getD 1 .nilp), (c8.getD 2 .nilp), y14]), H) := (callV_eq vb _ _ _ rfl).trans (by kernel_rfl)

/-! loop.example/mailwire/spec.l13OwnMail : kind 2, moves [] -/
theorem spec_l13OwnMail_eq (a0 : V) (H : VH) : cv id_spec_l13OwnMail [a0] H =
  (aggNV 3 a0).bind fun c1 =>
  (appV false 1 16 [] (c1.getD 1 .nilp)).bind fun x6_6 =>
  (vOneV x6_6).bind fun y9 =>
  (appV false 1 16 [] (c1.getD 2 .nilp)).bind fun x11_13 =>
  (vOneV x11_13).bind fun y16 =>
  some ((.agg [(c1.getD 0 .nilp), y9, y16]), H) := (callV_eq vb _ _ _ rfl).trans (by kernel_rfl)

/-! loop.example/mailwire/spec.l13OwnListMail : kind 2, moves [] -/
noncomputable def spec_l13OwnListMail_l3 : List V → VH → Option (Option Nat × List V × VH) := roundV (vb.ctx cv lpW') (vb.b.ann 46) (vb.takes 46) ⟨⟨[3, 7, 8, 9], [], []⟩, [(.exit 0, ⟨[3], [], []⟩)]⟩ (loopIn Tryz.f46 3)
theorem spec_l13OwnListMail_l3_eq (v0 v1 v2 v3 : V) (H : VH) : spec_l13OwnListMail_l3 [v0, v1, v2, v3] H =
  (vBinV (.int .i64) .lss v3 v2).bind fun x10_6 =>
  ifVV x10_6 (
  (vIdxV 3 v1 v3).bind fun x11_7 =>
  (ldO globB false true 3 x11_7 H).bind fun r9 =>
  (aggNV 3 r9.1).bind fun c12 =>
  (pc id_spec_l13OwnMail [(frz r9.2 (.agg [(strip (c12.getD 0 .nilp)), (strip (c12.getD 1 .nilp)), (strip (c12.getD 2 .nilp))]))]).bind fun x15_15 =>
  (aggNV 3 x15_15).bind fun c17 =>
  (ownV v0).bind fun s19 =>
  (appV false 3 64 s19 (.sl true [[(c17.getD 0 .nilp), (c17.getD 1 .nilp), (c17.getD 2 .nilp)]])).bind fun x17_18 =>
  (vBinV (.int .i64) .add v3 (.int .i64 1)).bind fun x18_21 =>
  some (none, [x17_18, v1, v2, x18_21], r9.2)) (
  some (some 0, [v0], H)) := by kernel_rfl
theorem spec_l13OwnListMail_eq (a0 : V) (H : VH) : cv id_spec_l13OwnListMail [a0] H =
  (vLenVV (strip a0)).bind fun x8_4 =>
  (lpW' spec_l13OwnListMail_l3 [(.sl true []), (strip a0), x8_4, (.int .i64 0)] H).bind fun r23 =>
  inN r23.1 [
  gotV 1 r23.2.1 fun v24 =>
  some ((v24 0), r23.2.2)] := (callV_eq vb _ _ _ rfl).trans (by kernel_rfl)

/-! loop.example/mailwire/spec.l10Line : kind 0, moves [] -/
theorem spec_l10Line_eq (a0 : V) (H : VH) : cv id_spec_l10Line [a0] H =
  (cv id_spec_l13Rd_of [(strip a0), (.sl false (stripLL [[(.str [72, 69, 76, 79, 32, 120, 46, 111, 114, 103])], [(.str [104, 101, 108, 111, 32, 89, 46, 111, 114, 103])], [(.str [77, 65, 73, 76, 32, 70, 82, 79, 77, 58, 60, 97, 110, 110, 64, 120, 46, 111, 114, 103, 62])], [(.str [109, 97, 105, 108, 32, 102, 114, 111, 109, 58, 60, 62])], [(.str [82, 67, 80, 84, 32, 84, 79, 58, 60, 98, 111, 98, 64, 89, 46, 111, 114, 103, 62])], [(.str [114, 99, 112, 116, 32, 116, 111, 58, 60, 99, 121, 64, 120, 46, 111, 114, 103, 62])], [(.str [68, 65, 84, 65])], [(.str [116, 101, 120, 116])], [(.str [46])], [(.str [82, 83, 69, 84])], [(.str [78, 79, 79, 80])], [(.str [81, 85, 73, 84])], [(.str [86, 82, 70, 89, 32, 120])], [(.str [77, 65, 73, 76, 32, 70, 82, 79, 77, 58, 97, 110, 110])], [(.str [82, 67, 80, 84, 32, 84, 79, 58, 60, 62])], [(.str [72, 69, 76, 79])], [(.str [100, 97, 116, 97])], [(.str [])], [(.str [77, 65, 73, 76, 32, 32, 70, 82, 79, 77, 58, 60, 97, 64, 98, 62])]]))] H).bind fun r4 =>
  some (r4.1, r4.2) := (callV_eq vb _ _ _ rfl).trans (by kernel_rfl)

/-! (*loop.example/mailwire/spec.l13Rd).of : kind 0, moves [] -/
theorem spec_l13Rd_of_eq (a0 a1 : V) (H : VH) : cv id_spec_l13Rd_of [a0, a1] H =
  (vLenVV (strip a1)).bind fun x8_4 =>
  (cv id_spec_l13Rd_pick [(strip a0), (strip x8_4)] H).bind fun r6 =>
  (vIdxV 1 (strip a1) r6.1).bind fun x10_7 =>
  (ldO globB false false 1 x10_7 r6.2).bind fun r9 =>
  some (r9.1, r9.2) := (callV_eq vb _ _ _ rfl).trans (by kernel_rfl)

/-! loop.example/mailwire/spec.l10Wrong : kind 0, moves [1] -/
theorem spec_l10Wrong_eq (a0 a1 : V) (H : VH) : cv id_spec_l10Wrong [a0, a1] H =
  (aggNV 6 a1).bind fun c1 =>
  (cv id_spec_l10Copy [(.agg [(c1.getD 0 .nilp), (c1.getD 1 .nilp), (c1.getD 2 .nilp), (c1.getD 3 .nilp), (c1.getD 4 .nilp), (c1.getD 5 .nilp)])] H).bind fun r5 =>
  (aggNV 6 r5.1).bind fun c8 =>
  (cv id_spec_l13Rd_pick [(strip a0), (.int .i64 20)] r5.2).bind fun r11 =>
  (vBinV (.int .i64) .eql r11.1 (.int .i64 0)).bind fun x11_12 =>
  ifVV x11_12 (
  (cv id_spec_l13Rd_num [(strip (strip a0)), (.sl false (stripLL [[(.int .i64 6)], [(.int .i64 (-1))], [(.int .i64 0)], [(.int .i64 1)], [(.int .i64 2)], [(.int .i64 3)], [(.int .i64 4)], [(.int .i64 5)]]))] r11.2).bind fun r17 =>
  (vOneV r17.1).bind fun y20 =>
  some ((.agg [y20, (c8.getD 1 .nilp), (c8.getD 2 .nilp), (c8.getD 3 .nilp), (c8.getD 4 .nilp), (c8.getD 5 .nilp)]), r17.2)) (
  (vBinV (.int .i64) .eql r11.1 (.int .i64 1)).bind fun x17_23 =>
  ifVV x17_23 (
  (cv id_spec_l13Rd_of [(strip (strip a0)), (.sl false (stripLL [[(.str [])], [(.str [88])], [(.str [120, 46, 111, 114, 103])]]))] r11.2).bind fun r28 =>
  (vOneV r28.1).bind fun y31 =>
  some ((.agg [(c8.getD 0 .nilp), y31, (c8.getD 2 .nilp), (c8.getD 3 .nilp), (c8.getD 4 .nilp), (c8.getD 5 .nilp)]), r28.2)) (
  (vBinV (.int .i64) .eql r11.1 (.int .i64 2)).bind fun x23_34 =>
  ifVV x23_34 (
  (cv id_spec_l13Rd_of [(strip (strip a0)), (.sl false (stripLL [[(.str [97, 64, 98])], [(.str [97])], [(.str [97, 64, 66])]]))] r11.2).bind fun r42 =>
  (vOneV r42.1).bind fun y44 =>
  (ownV (c8.getD 3 .nilp)).bind fun s46 =>
  (appV false 1 16 s46 (.sl true [[y44]])).bind fun x31_45 =>
  (vOneV x31_45).bind fun y50 =>
  some ((.agg [(c8.getD 0 .nilp), (c8.getD 1 .nilp), (c8.getD 2 .nilp), y50, (c8.getD 4 .nilp), (c8.getD 5 .nilp)]), r42.2)) (
  (vBinV (.int .i64) .eql r11.1 (.int .i64 3)).bind fun x35_53 =>
  ifVV x35_53 (
  (ownV (c8.getD 5 .nilp)).bind fun s60 =>
  (appV false 3 64 s60 (.sl true [[(.str [120]), (.sl true []), (.sl true [])]])).bind fun x40_59 =>
  (vOneV x40_59).bind fun y63 =>
  some ((.agg [(c8.getD 0 .nilp), (c8.getD 1 .nilp), (c8.getD 2 .nilp), (c8.getD 3 .nilp), (c8.getD 4 .nilp), y63]), r11.2)) (
  some ((.agg [(c8.getD 0 .nilp), (c8.getD 1 .nilp), (c8.getD 2 .nilp), (c8.getD 3 .nilp), (c8.getD 4 .nilp), (c8.getD 5 .nilp)]), r11.2))))) := (callV_eq vb _ _ _ rfl).trans (by kernel_rfl)

/-! loop.example/mailwire/impl.SayAll : kind 2, moves [] -/
noncomputable def impl_SayAll_l5 : List V → VH → Option (Option Nat × List V × VH) := roundV (vb.ctx cv lpW') (vb.b.ann 14) (vb.takes 14) ⟨⟨[7, 8, 20, 21, 22], [(4, (4, 0))], [(4, 6)]⟩, [(.exit 0, ⟨[7, 8], [(4, (4, 0))], [(4, 6)]⟩), (.ret, ⟨[5, 6], [(4, (4, 0))], [(4, 6)]⟩)]⟩ (loopIn Tryz.f14 5)
theorem impl_SayAll_l5_eq (v0 v1 v2 v3 v4 v5 v6 v7 v8 v9 v10 : V) (H : VH) : impl_SayAll_l5 [v0, v1, v2, v3, v4, v5, v6, v7, v8, v9, v10] H =
  (vBinV (.int .i64) .lss v4 v3).bind fun x23_23 =>
  ifVV x23_23 (
  (vIdxV 1 v2 v4).bind fun x24_24 =>
  (ldO globB false false 1 x24_24 H).bind fun r26 =>
  (cv id_impl_Session_say [(strip v0), (strip r26.1)] r26.2).bind fun r30 =>
  (vExtV r30.1 0).bind fun x29_32 =>
  (vExtV r30.1 1).bind fun x30_33 =>
  (vUnV .not (strip x30_33)).bind fun x32_37 =>
  ifVV x32_37 (
  some (some 1, [(.sl true []), (.bool false), (.int .i64 0), (.str []), (.str []), (.sl true []), (.sl true []), (.sl true [])], r30.2)) (
  (vBinV (.int .i64) .neq (strip x29_32) (.int .i64 0)).bind fun x35_43 =>
  ifVV x35_43 (
  (vOneV (strip (strip x29_32))).bind fun y47 =>
  (ownV v1).bind fun s49 =>
  (appV false 1 8 s49 (.sl true [[y47]])).bind fun x39_48 =>
  (vBinV (.int .i64) .add v4 (.int .i64 1)).bind fun x40_51 =>
  some (none, [v0, x39_48, v2, v3, x40_51, v5, v6, v7, v8, v9, v10], r30.2)) (
  (vBinV (.int .i64) .add v4 (.int .i64 1)).bind fun x40_53 =>
  some (none, [v0, v1, v2, v3, x40_53, v5, v6, v7, v8, v9, v10], r30.2)))) (
  some (some 0, [v0, v1, v5, v6, v7, v8, v9, v10], H)) := by kernel_rfl
theorem impl_SayAll_eq (a0 a1 : V) (H : VH) : cv id_impl_SayAll [a0, a1] H =
  (aggNV 6 a0).bind fun c1 =>
  (qc id_impl_SessionValid [(frz H (.agg [(strip (c1.getD 0 .nilp)), (strip (c1.getD 1 .nilp)), (strip (c1.getD 2 .nilp)), (strip (c1.getD 3 .nilp)), (strip (c1.getD 4 .nilp)), (strip (c1.getD 5 .nilp))]))]).bind fun x14_6 =>
  (vUnV .not x14_6).bind fun x15_7 =>
  ifVV x15_7 (
  some ((.tup [(.agg [(.int .i64 0), (.str []), (.str []), (.sl true []), (.sl true []), (.sl true [])]), (.sl true []), (.bool false)]), H)) (
  (pc id_impl_copySession [(frz H (.agg [(strip (c1.getD 0 .nilp)), (strip (c1.getD 1 .nilp)), (strip (c1.getD 2 .nilp)), (strip (c1.getD 3 .nilp)), (strip (c1.getD 4 .nilp)), (strip (c1.getD 5 .nilp))]))]).bind fun x18_13 =>
  (aggNV 6 x18_13).bind fun c17 =>
  (stO (.ptr H.length 0) [(c17.getD 0 .nilp), (c17.getD 1 .nilp), (c17.getD 2 .nilp), (c17.getD 3 .nilp), (c17.getD 4 .nilp), (c17.getD 5 .nilp)] (H ++ [[(.int .i64 0), (.str []), (.str []), (.sl true []), (.sl true []), (.sl true [])]])).bind fun H18 =>
  (vLenVV (strip a1)).bind fun x21_21 =>
  (lpW' impl_SayAll_l5 [(.ptr H.length 0), (.sl true []), (strip a1), x21_21, (.int .i64 0), (.int .i64 0), (.str []), (.str []), (.sl true []), (.sl true []), (.sl true [])] H18).bind fun r55 =>
  inN r55.1 [
  gotV 8 r55.2.1 fun v56 =>
  (ldO globB true true 6 (v56 0) r55.2.2).bind fun r58 =>
  (aggNV 6 r58.1).bind fun c61 =>
  some ((.tup [(.agg [(c61.getD 0 .nilp), (c61.getD 1 .nilp), (c61.getD 2 .nilp), (c61.getD 3 .nilp), (c61.getD 4 .nilp), (c61.getD 5 .nilp)]), (v56 1), (.bool true)]), r58.2),
  gotV 8 r55.2.1 fun v64 =>
  some ((.tup [(.agg [(v64 2), (v64 3), (v64 4), (v64 5), (v64 6), (v64 7)]), (v64 0), (v64 1)]), r55.2.2)]) := (callV_eq vb _ _ _ rfl).trans (by kernel_rfl)

/-! loop.example/mailwire/impl.SessionValid : kind 1, moves [] -/
theorem impl_SessionValid_eq (a0 : V) (H : VH) : cv id_impl_SessionValid [a0] H =
  (aggNV 6 a0).bind fun c1 =>
  (id (
  (vBinV (.int .i64) .lss (strip (c1.getD 0 .nilp)) (.int .i64 0)).bind fun x5_5 =>
  ifGV x5_5 (
  some (0, [(.bool false)], H)) (
  (vBinV (.int .i64) .gtr (strip (c1.getD 0 .nilp)) (.int .i64 5)).bind fun x9_17 =>
  ifGV x9_17 (
  some (0, [(.bool false)], H)) (
  (qc id_impl_draftValid [(frz H (.agg [(strip (c1.getD 2 .nilp)), (strip (c1.getD 3 .nilp)), (strip (c1.getD 4 .nilp))])), (frz H (.int .i64 0)), (frz H (.int .i64 31))]).bind fun x14_28 =>
  (vUnV .not x14_28).bind fun x15_29 =>
  ifGV x15_29 (
  some (0, [(.bool false)], H)) (
  (qc id_impl_mailsValid [(frz H (strip (c1.getD 5 .nilp))), (frz H (.int .i64 5))]).bind fun x20_38 =>
  (vUnV .not x20_38).bind fun x21_39 =>
  ifGV x21_39 (
  some (0, [(.bool false)], H)) (
  (vBinV .str .neq (strip (c1.getD 1 .nilp)) (.str [])).bind fun x26_46 =>
  ifGV x26_46 (
  (qc id_impl_isDomain [(frz H (strip (c1.getD 1 .nilp)))]).bind fun x30_50 =>
  (vUnV .not x30_50).bind fun x31_51 =>
  ifVV x31_51 (
  some (0, [(.bool false)], H)) (
  some (1, [(c1.getD 0 .nilp), (c1.getD 1 .nilp), (c1.getD 2 .nilp), (c1.getD 3 .nilp), (c1.getD 4 .nilp), (c1.getD 5 .nilp)], H))) (
  some (1, [(c1.getD 0 .nilp), (c1.getD 1 .nilp), (c1.getD 2 .nilp), (c1.getD 3 .nilp), (c1.getD 4 .nilp), (c1.getD 5 .nilp)], H)))))) : Option (Nat × List V × VH))).bind fun r57 =>
  inN r57.1 [
  gotV 1 r57.2.1 fun v58 =>
  some ((v58 0), r57.2.2),
  gotV 6 r57.2.1 fun v59 =>
  (id (
  (vBinV (.int .i64) .neq (strip (v59 0)) (.int .i64 5)).bind fun x37_62 =>
  ifGV x37_62 (
  (vBinV .str .eql (strip (v59 1)) (.str [])).bind fun x41_66 =>
  (vBinV (.int .i64) .eql (strip (v59 0)) (.int .i64 0)).bind fun x44_69 =>
  (vBinV .bool .neq x41_66 x44_69).bind fun x45_70 =>
  ifVV x45_70 (
  some (0, [(.bool false)], r57.2.2)) (
  (vLenVV (strip (v59 3))).bind fun x51_77 =>
  (vBinV (.int .i64) .gtr x51_77 (.int .i64 0)).bind fun x52_78 =>
  (vBinV (.int .i64) .eql (strip (v59 0)) (.int .i64 3)).bind fun x55_81 =>
  ifGV x55_81 (
  (vBinV .bool .neq x52_78 (.bool true)).bind fun x61_84 =>
  ifVV x61_84 (
  some (0, [(.bool false)], r57.2.2)) (
  (vLenVV (strip (v59 4))).bind fun x66_90 =>
  (vBinV (.int .i64) .gtr x66_90 (.int .i64 0)).bind fun x67_91 =>
  ifGV x67_91 (
  (vBinV (.int .i64) .neq (strip (v59 0)) (.int .i64 4)).bind fun x71_95 =>
  ifVV x71_95 (
  some (0, [(.bool false)], r57.2.2)) (
  some (1, [(v59 0), (v59 1), (v59 2), (v59 3), (v59 4), (v59 5)], r57.2.2))) (
  some (1, [(v59 0), (v59 1), (v59 2), (v59 3), (v59 4), (v59 5)], r57.2.2)))) (
  (vBinV (.int .i64) .eql (strip (v59 0)) (.int .i64 4)).bind fun x59_103 =>
  (vBinV .bool .neq x52_78 x59_103).bind fun x61_105 =>
  ifVV x61_105 (
  some (0, [(.bool false)], r57.2.2)) (
  (vLenVV (strip (v59 4))).bind fun x66_111 =>
  (vBinV (.int .i64) .gtr x66_111 (.int .i64 0)).bind fun x67_112 =>
  ifGV x67_112 (
  (vBinV (.int .i64) .neq (strip (v59 0)) (.int .i64 4)).bind fun x71_116 =>
  ifVV x71_116 (
  some (0, [(.bool false)], r57.2.2)) (
  some (1, [(v59 0), (v59 1), (v59 2), (v59 3), (v59 4), (v59 5)], r57.2.2))) (
  some (1, [(v59 0), (v59 1), (v59 2), (v59 3), (v59 4), (v59 5)], r57.2.2)))))) (
  (vLenVV (strip (v59 3))).bind fun x51_127 =>
  (vBinV (.int .i64) .gtr x51_127 (.int .i64 0)).bind fun x52_128 =>
  (vBinV (.int .i64) .eql (strip (v59 0)) (.int .i64 3)).bind fun x55_131 =>
  ifGV x55_131 (
  (vBinV .bool .neq x52_128 (.bool true)).bind fun x61_134 =>
  ifVV x61_134 (
  some (0, [(.bool false)], r57.2.2)) (
  (vLenVV (strip (v59 4))).bind fun x66_140 =>
  (vBinV (.int .i64) .gtr x66_140 (.int .i64 0)).bind fun x67_141 =>
  ifGV x67_141 (
  (vBinV (.int .i64) .neq (strip (v59 0)) (.int .i64 4)).bind fun x71_145 =>
  ifVV x71_145 (
  some (0, [(.bool false)], r57.2.2)) (
  some (1, [(v59 0), (v59 1), (v59 2), (v59 3), (v59 4), (v59 5)], r57.2.2))) (
  some (1, [(v59 0), (v59 1), (v59 2), (v59 3), (v59 4), (v59 5)], r57.2.2)))) (
  (vBinV (.int .i64) .eql (strip (v59 0)) (.int .i64 4)).bind fun x59_153 =>
  (vBinV .bool .neq x52_128 x59_153).bind fun x61_155 =>
  ifVV x61_155 (
  some (0, [(.bool false)], r57.2.2)) (
  (vLenVV (strip (v59 4))).bind fun x66_161 =>
  (vBinV (.int .i64) .gtr x66_161 (.int .i64 0)).bind fun x67_162 =>
  ifGV x67_162 (
  (vBinV (.int .i64) .neq (strip (v59 0)) (.int .i64 4)).bind fun x71_166 =>
  ifVV x71_166 (
  some (0, [(.bool false)], r57.2.2)) (
  some (1, [(v59 0), (v59 1), (v59 2), (v59 3), (v59 4), (v59 5)], r57.2.2))) (
  some (1, [(v59 0), (v59 1), (v59 2), (v59 3), (v59 4), (v59 5)], r57.2.2))))) : Option (Nat × List V × VH))).bind fun r172 =>
  inN r172.1 [
  gotV 1 r172.2.1 fun v173 =>
  some ((v173 0), r172.2.2),
  gotV 6 r172.2.1 fun v174 =>
  (vBinV .str .eql (strip (v174 2)) (.str [])).bind fun x76_178 =>
  ifGV x76_178 (
  some ((.bool true), r172.2.2)) (
  (vBinV (.int .i64) .eql (strip (v174 0)) (.int .i64 2)).bind fun x80_188 =>
  ifGV x80_188 (
  some ((.bool true), r172.2.2)) (
  (vBinV (.int .i64) .eql (strip (v174 0)) (.int .i64 3)).bind fun x85_197 =>
  ifGV x85_197 (
  some ((.bool true), r172.2.2)) (
  (vBinV (.int .i64) .eql (strip (v174 0)) (.int .i64 4)).bind fun x90_204 =>
  some (x90_204, r172.2.2))))]] := (callV_eq vb _ _ _ rfl).trans (by kernel_rfl)

/-! loop.example/mailwire/impl.draftValid : kind 1, moves [] -/
theorem impl_draftValid_eq (a0 a1 a2 : V) (H : VH) : cv id_impl_draftValid [a0, a1, a2] H =
  (aggNV 3 a0).bind fun c1 =>
  (qc id_impl_isFrom [(frz H (strip (c1.getD 0 .nilp)))]).bind fun x9_5 =>
  ifGV x9_5 (
  (vLenVV (strip (c1.getD 1 .nilp))).bind fun x13_9 =>
  (vBinV (.int .i64) .geq x13_9 a1).bind fun x15_11 =>
  ifGV x15_11 (
  (vLenVV (strip (c1.getD 1 .nilp))).bind fun x20_16 =>
  (vBinV (.int .i64) .leq x20_16 (.int .i64 10)).bind fun x21_17 =>
  ifGV x21_17 (
  (qc id_slices_ContainsFunc___string_string_ [(frz H (strip (c1.getD 1 .nilp))), (frz H (.fn id_impl_draftValid_1 []))]).bind fun x26_22 =>
  (vUnV .not x26_22).bind fun x27_23 =>
  ifGV x27_23 (
  (qc id_impl_areTexts [(frz H (strip (c1.getD 2 .nilp))), (frz H a2)]).bind fun x33_29 =>
  some (x33_29, H)) (
  some ((.bool false), H))) (
  some ((.bool false), H))) (
  some ((.bool false), H))) (
  some ((.bool false), H)) := (callV_eq vb _ _ _ rfl).trans (by kernel_rfl)

/-! loop.example/mailwire/impl.isFrom : kind 1, moves [] -/
theorem impl_isFrom_eq (a0 : V) (H : VH) : cv id_impl_isFrom [a0] H =
  (vBinV .str .eql a0 (.str [])).bind fun x4_2 =>
  ifGV x4_2 (
  some ((.bool true), H)) (
  (qc id_impl_isPath [(frz H (strip a0))]).bind fun x7_7 =>
  some (x7_7, H)) := (callV_eq vb _ _ _ rfl).trans (by kernel_rfl)

/-! loop.example/mailwire/impl.isPath : kind 1, moves [] -/
theorem impl_isPath_eq (a0 : V) (H : VH) : cv id_impl_isPath [a0] H =
  (qc id_strings_Cut [(frz H a0), (frz H (.str [64]))]).bind fun x8_2 =>
  (vExtV x8_2 0).bind fun x9_4 =>
  (vExtV x8_2 1).bind fun x10_5 =>
  (vExtV x8_2 2).bind fun x11_6 =>
  ifGV (strip x11_6) (
  (qc id_impl_isLocal [(frz H (strip x9_4))]).bind fun x15_13 =>
  ifGV x15_13 (
  (qc id_impl_isDomain [(frz H (strip x10_5))]).bind fun x19_17 =>
  some (x19_17, H)) (
  some ((.bool false), H))) (
  some ((.bool false), H)) := (callV_eq vb _ _ _ rfl).trans (by kernel_rfl)

/-! strings.Cut : kind 1, moves [] -/
theorem strings_Cut_eq (a0 a1 : V) (H : VH) : cv id_strings_Cut [a0, a1] H =
  (qc id_internal_stringslite_Cut [(frz H a0), (frz H a1)]).bind fun x9_5 =>
  (vExtV x9_5 0).bind fun x10_6 =>
  (vExtV x9_5 1).bind fun x11_7 =>
  (vExtV x9_5 2).bind fun x12_8 =>
  some ((.tup [(strip x10_6), (strip x11_7), (strip x12_8)]), H) := (callV_eq vb _ _ _ rfl).trans (by kernel_rfl)

/-! internal/stringslite.Cut : kind 1, moves [] -/
theorem internal_stringslite_Cut_eq (a0 a1 : V) (H : VH) : cv id_internal_stringslite_Cut [a0, a1] H =
  (qc id_internal_stringslite_Index [(frz H a0), (frz H a1)]).bind fun x10_5 =>
  (vBinV (.int .i64) .geq x10_5 (.int .i64 0)).bind fun x12_8 =>
  ifVV x12_8 (
  (vSliceSV (strip a0) none (some (strip x10_5))).bind fun x15_11 =>
  (vLenSV (strip a1)).bind fun x19_15 =>
  (vBinV (.int .i64) .add (strip (strip x10_5)) x19_15).bind fun x20_16 =>
  (vSliceSV (strip (strip a0)) (some x20_16) none).bind fun x21_17 =>
  some ((.tup [x15_11, x21_17, (.bool true)]), H)) (
  some ((.tup [(strip a0), (.str []), (.bool false)]), H)) := (callV_eq vb _ _ _ rfl).trans (by kernel_rfl)

/-! internal/stringslite.Index : kind 1, moves [] -/
noncomputable def internal_stringslite_Index_l15 : List V → VH → Option (Option Nat × List V × VH) := roundV (vb.ctx cv lpW') (vb.b.ann 102) (vb.takes 102) ⟨⟨[0, 1, 5, 6, 7, 8, 9, 10], [], []⟩, [(.exit 1, ⟨[], [], []⟩), (.ret, ⟨[4], [], []⟩)]⟩ (loopIn Tryz.f102 15)
theorem internal_stringslite_Index_l15_eq (v0 v1 v2 v3 v4 v5 v6 v7 : V) (H : VH) : internal_stringslite_Index_l15 [v0, v1, v2, v3, v4, v5, v6, v7] H =
  (vBinV (.int .i64) .lss v5 v6).bind fun x59_65 =>
  ifVV x59_65 (
  (id (
  (vIndexSV v0 (strip v5)).bind fun x62_68 =>
  (vBinV (.int .u8) .neq x62_68 v3).bind fun x64_70 =>
  ifVV x64_70 (
  (vBinV (.int .i64) .add (strip (strip v5)) (.int .i64 1)).bind fun x67_73 =>
  (vSliceSV (strip v0) (some x67_73) (some (strip v6))).bind fun x69_75 =>
  (qc id_internal_stringslite_IndexByte [(frz H x69_75), (frz H (strip v3))]).bind fun x71_77 =>
  (vBinV (.int .i64) .lss x71_77 (.int .i64 0)).bind fun x73_80 =>
  ifVV x73_80 (
  some (0, [(.int .i64 (-1))], H)) (
  (vBinV (.int .i64) .add (strip x71_77) (.int .i64 1)).bind fun x76_84 =>
  (vBinV (.int .i64) .add (strip (strip (strip v5))) x76_84).bind fun x77_85 =>
  some (1, [(strip (strip v0)), v1, v2, (strip (strip v3)), v4, x77_85, (strip (strip v6)), v7], H))) (
  some (1, [(strip v0), v1, v2, (strip v3), v4, (strip (strip v5)), (strip v6), v7], H)) : Option (Nat × List V × VH))).bind fun r87 =>
  inN r87.1 [
  gotV 1 r87.2.1 fun v88 =>
  some (some 1, [(v88 0)], r87.2.2),
  gotV 8 r87.2.1 fun v89 =>
  (id (
  (vBinV (.int .i64) .add (v89 5) (.int .i64 1)).bind fun x80_92 =>
  (vIndexSV (v89 0) x80_92).bind fun x81_93 =>
  (vBinV (.int .u8) .eql x81_93 (v89 4)).bind fun x83_95 =>
  ifGV x83_95 (
  (vBinV (.int .i64) .add (strip (strip (v89 5))) (v89 2)).bind fun x89_101 =>
  (vSliceSV (strip (v89 0)) (some (strip (v89 5))) (some x89_101)).bind fun x90_102 =>
  (vBinV .str .eql x90_102 (v89 1)).bind fun x92_104 =>
  ifVV x92_104 (
  some (0, [(strip (strip (strip (v89 5))))], r87.2.2)) (
  some (1, [(strip (strip (v89 0))), (strip (v89 1)), (strip (v89 2)), (v89 3), (strip (v89 4)), (strip (strip (strip (v89 5)))), (v89 6), (v89 7)], r87.2.2))) (
  some (1, [(strip (v89 0)), (v89 1), (v89 2), (v89 3), (strip (v89 4)), (strip (v89 5)), (v89 6), (v89 7)], r87.2.2)) : Option (Nat × List V × VH))).bind fun r109 =>
  inN r109.1 [
  gotV 1 r109.2.1 fun v110 =>
  some (some 1, [(v110 0)], r109.2.2),
  gotV 8 r109.2.1 fun v111 =>
  (vBinV (.int .i64) .add (v111 5) (.int .i64 1)).bind fun x96_113 =>
  (vBinV (.int .i64) .add (v111 7) (.int .i64 1)).bind fun x98_116 =>
  (ldO globB false false 1 (.gp 0 0) r109.2.2).bind fun r120 =>
  (vBinV (.int .i64) .leq (v111 2) r120.1).bind fun x101_121 =>
  ifGV x101_121 (
  (qc id_internal_bytealg_Cutover [(frz r120.2 x96_113)]).bind fun x105_125 =>
  (vBinV (.int .i64) .gtr x98_116 x105_125).bind fun x106_126 =>
  ifVV x106_126 (
  (vSliceSV (v111 0) (some (strip x96_113)) none).bind fun x110_130 =>
  (extB 2 [x110_130, (v111 1)] fun x112_132 =>
    (vBinV (.int .i64) .geq x112_132 (.int .i64 0)).bind fun x114_135 =>
  ifVV x114_135 (
  (vBinV (.int .i64) .add (strip x112_132) (strip (strip x96_113))).bind fun x117_138 =>
  some (some 1, [x117_138], r120.2)) (
  some (some 1, [(.int .i64 (-1))], r120.2)))) (
  (ldO globB false false 1 (.gp 0 0) r120.2).bind fun r143 =>
  (vBinV (.int .i64) .gtr (strip (v111 2)) r143.1).bind fun x120_144 =>
  ifGV x120_144 (
  (vBinV (.int .i64) .shr (strip x96_113) (.int .u64 4)).bind fun x124_148 =>
  (vBinV (.int .i64) .add (.int .i64 4) x124_148).bind fun x125_149 =>
  (vBinV (.int .i64) .geq (strip x98_116) x125_149).bind fun x126_150 =>
  ifGV x126_150 (
  (vBinV (.int .i64) .lss (strip (strip x96_113)) (v111 6)).bind fun x131_155 =>
  ifVV x131_155 (
  (vSliceSV (v111 0) (some (strip (strip (strip x96_113)))) none).bind fun x135_159 =>
  (qc id_internal_bytealg_IndexRabinKarp_string_ [(frz r143.2 x135_159), (frz r143.2 (v111 1))]).bind fun x137_161 =>
  (vBinV (.int .i64) .lss x137_161 (.int .i64 0)).bind fun x139_164 =>
  ifVV x139_164 (
  some (some 1, [(.int .i64 (-1))], r143.2)) (
  (vBinV (.int .i64) .add (strip (strip (strip (strip x96_113)))) (strip x137_161)).bind fun x142_168 =>
  some (some 1, [x142_168], r143.2))) (
  some (none, [(v111 0), (v111 1), (strip (strip (v111 2))), (v111 3), (v111 4), (strip (strip (strip x96_113))), (strip (v111 6)), (strip (strip x98_116))], r143.2))) (
  some (none, [(v111 0), (v111 1), (strip (strip (v111 2))), (v111 3), (v111 4), (strip (strip x96_113)), (v111 6), (strip (strip x98_116))], r143.2))) (
  some (none, [(v111 0), (v111 1), (strip (strip (v111 2))), (v111 3), (v111 4), (strip x96_113), (v111 6), (strip x98_116)], r143.2)))) (
  (ldO globB false false 1 (.gp 0 0) r120.2).bind fun r177 =>
  (vBinV (.int .i64) .gtr (strip (v111 2)) r177.1).bind fun x120_178 =>
  ifGV x120_178 (
  (vBinV (.int .i64) .shr x96_113 (.int .u64 4)).bind fun x124_182 =>
  (vBinV (.int .i64) .add (.int .i64 4) x124_182).bind fun x125_183 =>
  (vBinV (.int .i64) .geq x98_116 x125_183).bind fun x126_184 =>
  ifGV x126_184 (
  (vBinV (.int .i64) .lss (strip x96_113) (v111 6)).bind fun x131_189 =>
  ifVV x131_189 (
  (vSliceSV (v111 0) (some (strip (strip x96_113))) none).bind fun x135_193 =>
  (qc id_internal_bytealg_IndexRabinKarp_string_ [(frz r177.2 x135_193), (frz r177.2 (v111 1))]).bind fun x137_195 =>
  (vBinV (.int .i64) .lss x137_195 (.int .i64 0)).bind fun x139_198 =>
  ifVV x139_198 (
  some (some 1, [(.int .i64 (-1))], r177.2)) (
  (vBinV (.int .i64) .add (strip (strip (strip x96_113))) (strip x137_195)).bind fun x142_202 =>
  some (some 1, [x142_202], r177.2))) (
  some (none, [(v111 0), (v111 1), (strip (strip (v111 2))), (v111 3), (v111 4), (strip (strip x96_113)), (strip (v111 6)), (strip x98_116)], r177.2))) (
  some (none, [(v111 0), (v111 1), (strip (strip (v111 2))), (v111 3), (v111 4), (strip x96_113), (v111 6), (strip x98_116)], r177.2))) (
  some (none, [(v111 0), (v111 1), (strip (strip (v111 2))), (v111 3), (v111 4), x96_113, (v111 6), x98_116], r177.2)))]]) (
  some (some 0, [], H)) := by kernel_rfl
theorem internal_stringslite_Index_eq (a0 a1 : V) (H : VH) : cv id_internal_stringslite_Index [a0, a1] H =
  (vLenSV a1).bind fun x15_2 =>
  (id (
  (vBinV (.int .i64) .eql x15_2 (.int .i64 0)).bind fun x18_5 =>
  ifGV x18_5 (
  some (0, [(.int .i64 0)], H)) (
  (vBinV .str .eql (strip a1) a0).bind fun x22_12 =>
  ifVV x22_12 (
  some (0, [(.int .i64 0)], H)) (
  (vBinV (.int .i64) .eql (strip x15_2) (.int .i64 1)).bind fun x26_17 =>
  ifVV x26_17 (
  (vIndexSV (strip (strip a1)) (.int .i64 0)).bind fun x29_21 =>
  (qc id_internal_stringslite_IndexByte [(frz H (strip a0)), (frz H x29_21)]).bind fun x30_22 =>
  some (0, [x30_22], H)) (
  (vLenSV (strip a0)).bind fun x34_26 =>
  (vBinV (.int .i64) .geq (strip (strip x15_2)) x34_26).bind fun x35_27 =>
  ifVV x35_27 (
  some (0, [(.int .i64 (-1))], H)) (
  (ldO globB false false 1 (.gp 0 0) H).bind fun r32 =>
  (vBinV (.int .i64) .leq (strip (strip (strip x15_2))) r32.1).bind fun x39_33 =>
  ifGV x39_33 (
  (vLenSV (strip (strip a0))).bind fun x42_36 =>
  (vBinV (.int .i64) .leq x42_36 (.int .i64 64)).bind fun x43_37 =>
  ifVV x43_37 (
  (extB 2 [(strip (strip (strip a0))), (strip (strip a1))] fun x47_42 =>
    some (0, [x47_42], r32.2))) (
  some (1, [(strip (strip (strip a0))), (strip (strip a1)), (strip (strip (strip (strip x15_2))))], r32.2))) (
  some (1, [(strip (strip a0)), (strip (strip a1)), (strip (strip (strip (strip x15_2))))], r32.2)))))) : Option (Nat × List V × VH))).bind fun r46 =>
  inN r46.1 [
  gotV 1 r46.2.1 fun v47 =>
  some ((v47 0), r46.2.2),
  gotV 3 r46.2.1 fun v48 =>
  (vIndexSV (v48 1) (.int .i64 0)).bind fun x49_50 =>
  (vIndexSV (strip (v48 1)) (.int .i64 1)).bind fun x51_53 =>
  (vLenSV (v48 0)).bind fun x53_57 =>
  (vBinV (.int .i64) .sub x53_57 (v48 2)).bind fun x55_59 =>
  (vBinV (.int .i64) .add x55_59 (.int .i64 1)).bind fun x56_60 =>
  (lpW' internal_stringslite_Index_l15 [(strip (v48 0)), (strip (strip (v48 1))), (strip (v48 2)), x49_50, x51_53, (.int .i64 0), x56_60, (.int .i64 0)] r46.2.2).bind fun r208 =>
  inN r208.1 [
  gotV 0 r208.2.1 fun v209 =>
  some ((.int .i64 (-1)), r208.2.2),
  gotV 1 r208.2.1 fun v211 =>
  some ((v211 0), r208.2.2)]] := (callV_eq vb _ _ _ rfl).trans (by kernel_rfl)

/-! internal/stringslite.IndexByte : kind 1, moves [] -/
theorem internal_stringslite_IndexByte_eq (a0 a1 : V) (H : VH) : cv id_internal_stringslite_IndexByte [a0, a1] H =
  (extB 0 [a0, a1] fun x7_3 =>
    some (x7_3, H)) := (callV_eq vb _ _ _ rfl).trans (by kernel_rfl)

/-! internal/bytealg.Cutover : kind 1, moves [] -/
theorem internal_bytealg_Cutover_eq (a0 : V) (H : VH) : cv id_internal_bytealg_Cutover [a0] H =
  (vBinV (.int .i64) .add a0 (.int .i64 16)).bind fun x4_2 =>
  (vBinV (.int .i64) .quo x4_2 (.int .i64 8)).bind fun x5_3 =>
  some (x5_3, H) := (callV_eq vb _ _ _ rfl).trans (by kernel_rfl)

/-! internal/bytealg.IndexRabinKarp[string] : kind 1, moves [] -/
noncomputable def internal_bytealg_IndexRabinKarp_string__l5 : List V → VH → Option (Option Nat × List V × VH) := roundV (vb.ctx cv lpW') (vb.b.ann 112) (vb.takes 112) ⟨⟨[0, 1, 5, 6, 7, 8, 9], [], []⟩, [(.exit 0, ⟨[0, 1, 5, 6, 7, 8], [], []⟩)]⟩ (loopIn Tryz.f112 5)
noncomputable def internal_bytealg_IndexRabinKarp_string__l11 : List V → VH → Option (Option Nat × List V × VH) := roundV (vb.ctx cv lpW') (vb.b.ann 112) (vb.takes 112) ⟨⟨[0, 1, 5, 6, 7, 8, 10], [], []⟩, [(.exit 2, ⟨[], [], []⟩), (.ret, ⟨[4], [], []⟩)]⟩ (loopIn Tryz.f112 11)
theorem internal_bytealg_IndexRabinKarp_string__l5_eq (v0 v1 v2 v3 v4 v5 v6 : V) (H : VH) : internal_bytealg_IndexRabinKarp_string__l5 [v0, v1, v2, v3, v4, v5, v6] H =
  (vBinV (.int .i64) .lss v6 v4).bind fun x20_15 =>
  ifVV x20_15 (
  (vBinV (.int .u32) .mul v5 (.int .u32 16777619)).bind fun x24_17 =>
  (vIndexSV v0 (strip v6)).bind fun x27_20 =>
  (vConvV .u32 x27_20).bind fun x28_21 =>
  (vBinV (.int .u32) .add x24_17 x28_21).bind fun x29_22 =>
  (vBinV (.int .i64) .add (strip (strip v6)) (.int .i64 1)).bind fun x22_25 =>
  some (none, [(strip v0), v1, v2, v3, (strip v4), x29_22, x22_25], H)) (
  some (some 0, [v0, v1, v2, v3, (strip v4), v5], H)) := by kernel_rfl
theorem internal_bytealg_IndexRabinKarp_string__l11_eq (v0 v1 v2 v3 v4 v5 v6 : V) (H : VH) : internal_bytealg_IndexRabinKarp_string__l11 [v0, v1, v2, v3, v4, v5, v6] H =
  (vLenSV v0).bind fun x43_48 =>
  (vBinV (.int .i64) .lss v6 x43_48).bind fun x44_49 =>
  ifVV x44_49 (
  (vBinV (.int .u32) .mul v5 (.int .u32 16777619)).bind fun x46_51 =>
  (vIndexSV (strip v0) (strip v6)).bind fun x50_56 =>
  (vConvV .u32 x50_56).bind fun x51_57 =>
  (vBinV (.int .u32) .add x46_51 x51_57).bind fun x52_58 =>
  (vBinV (.int .i64) .sub (strip (strip v6)) v4).bind fun x58_65 =>
  (vIndexSV (strip (strip v0)) x58_65).bind fun x59_66 =>
  (vConvV .u32 x59_66).bind fun x60_67 =>
  (vBinV (.int .u32) .mul v3 x60_67).bind fun x61_68 =>
  (vBinV (.int .u32) .sub x52_58 x61_68).bind fun x62_69 =>
  (vBinV (.int .i64) .add (strip (strip (strip v6))) (.int .i64 1)).bind fun x64_72 =>
  (vBinV (.int .u32) .eql x62_69 v2).bind fun x67_76 =>
  ifGV x67_76 (
  (vBinV (.int .i64) .sub x64_72 (strip v4)).bind fun x72_81 =>
  (vSliceSV (strip (strip (strip v0))) (some x72_81) (some (strip x64_72))).bind fun x74_83 =>
  (vBinV .str .eql x74_83 v1).bind fun x76_85 =>
  ifVV x76_85 (
  (vBinV (.int .i64) .sub (strip (strip x64_72)) (strip (strip v4))).bind fun x80_89 =>
  some (some 1, [x80_89], H)) (
  some (none, [(strip (strip (strip (strip v0)))), (strip v1), (strip v2), (strip v3), (strip (strip v4)), (strip x62_69), (strip (strip x64_72))], H))) (
  some (none, [(strip (strip (strip v0))), v1, (strip v2), (strip v3), (strip v4), (strip x62_69), x64_72], H))) (
  some (some 0, [], H)) := by kernel_rfl
theorem internal_bytealg_IndexRabinKarp_string__eq (a0 a1 : V) (H : VH) : cv id_internal_bytealg_IndexRabinKarp_string_ [a0, a1] H =
  (qc id_internal_bytealg_hashStr_string_ [(frz H a1)]).bind fun x13_2 =>
  (vExtV x13_2 0).bind fun x14_4 =>
  (vExtV x13_2 1).bind fun x15_5 =>
  (vLenSV (strip a1)).bind fun x17_9 =>
  (lpW' internal_bytealg_IndexRabinKarp_string__l5 [a0, (strip (strip a1)), (strip x14_4), (strip x15_5), x17_9, (.int .u32 0), (.int .i64 0)] H).bind fun r27 =>
  inN r27.1 [
  gotV 6 r27.2.1 fun v28 =>
  (id (
  (vBinV (.int .u32) .eql (v28 5) (v28 2)).bind fun x32_31 =>
  ifGV x32_31 (
  (vSliceSV (v28 0) none (some (v28 4))).bind fun x36_35 =>
  (vBinV .str .eql x36_35 (v28 1)).bind fun x38_37 =>
  ifVV x38_37 (
  some (0, [(.int .i64 0)], r27.2.2)) (
  some (1, [(strip (v28 0)), (strip (v28 1)), (strip (v28 2)), (v28 3), (strip (v28 4)), (strip (v28 5))], r27.2.2))) (
  some (1, [(v28 0), (v28 1), (strip (v28 2)), (v28 3), (v28 4), (strip (v28 5))], r27.2.2)) : Option (Nat × List V × VH))).bind fun r41 =>
  inN r41.1 [
  gotV 1 r41.2.1 fun v42 =>
  some ((v42 0), r41.2.2),
  gotV 6 r41.2.1 fun v43 =>
  (lpW' internal_bytealg_IndexRabinKarp_string__l11 [(v43 0), (v43 1), (v43 2), (v43 3), (strip (v43 4)), (v43 5), (v43 4)] r41.2.2).bind fun r92 =>
  inN r92.1 [
  gotV 0 r92.2.1 fun v93 =>
  some ((.int .i64 (-1)), r92.2.2),
  gotV 1 r92.2.1 fun v95 =>
  some ((v95 0), r92.2.2)]]] := (callV_eq vb _ _ _ rfl).trans (by kernel_rfl)

/-! internal/bytealg.hashStr[string] : kind 1, moves [] -/
noncomputable def internal_bytealg_hashStr_string__l3 : List V → VH → Option (Option Nat × List V × VH) := roundV (vb.ctx cv lpW') (vb.b.ann 118) (vb.takes 118) ⟨⟨[0, 4, 5], [], []⟩, [(.exit 0, ⟨[0, 4], [], []⟩)]⟩ (loopIn Tryz.f118 3)
noncomputable def internal_bytealg_hashStr_string__l8 : List V → VH → Option (Option Nat × List V × VH) := roundV (vb.ctx cv lpW') (vb.b.ann 118) (vb.takes 118) ⟨⟨[4, 6, 7, 8], [], []⟩, [(.exit 2, ⟨[4, 6], [], []⟩)]⟩ (loopIn Tryz.f118 8)
theorem internal_bytealg_hashStr_string__l3_eq (v0 v1 v2 : V) (H : VH) : internal_bytealg_hashStr_string__l3 [v0, v1, v2] H =
  (vLenSV v0).bind fun x11_6 =>
  (vBinV (.int .i64) .lss v2 x11_6).bind fun x12_7 =>
  ifVV x12_7 (
  (vBinV (.int .u32) .mul v1 (.int .u32 16777619)).bind fun x16_9 =>
  (vIndexSV (strip v0) (strip v2)).bind fun x19_12 =>
  (vConvV .u32 x19_12).bind fun x20_13 =>
  (vBinV (.int .u32) .add x16_9 x20_13).bind fun x21_14 =>
  (vBinV (.int .i64) .add (strip (strip v2)) (.int .i64 1)).bind fun x14_17 =>
  some (none, [(strip (strip v0)), x21_14, x14_17], H)) (
  some (some 0, [(strip v0), v1], H)) := by kernel_rfl
theorem internal_bytealg_hashStr_string__l8_eq (v0 v1 v2 v3 : V) (H : VH) : internal_bytealg_hashStr_string__l8 [v0, v1, v2, v3] H =
  (vBinV (.int .i64) .gtr v3 (.int .i64 0)).bind fun x25_27 =>
  ifVV x25_27 (
  (id (
  (id (
  (vBinV (.int .i64) .and (strip v3) (.int .i64 1)).bind fun x29_29 =>
  (vBinV (.int .i64) .neq x29_29 (.int .i64 0)).bind fun x30_30 =>
  ifVV x30_30 (
  (vBinV (.int .u32) .mul v1 v2).bind fun x33_33 =>
  some (0, [v0, x33_33, (strip v2), (strip (strip v3))], H)) (
  some (0, [v0, v1, v2, (strip (strip v3))], H)) : Option (Nat × List V × VH))).bind fun r35 =>
  inN r35.1 [
  gotV 4 r35.2.1 fun v36 =>
  (vBinV (.int .u32) .mul (v36 2) (strip (v36 2))).bind fun x36_39 =>
  some (0, [(v36 0), (v36 1), x36_39, (v36 3)], r35.2.2)] : Option (Nat × List V × VH))).bind fun r41 =>
  inN r41.1 [
  gotV 4 r41.2.1 fun v42 =>
  (vBinV (.int .i64) .shr (v42 3) (.int .u64 1)).bind fun x27_44 =>
  some (none, [(v42 0), (v42 1), (v42 2), x27_44], r41.2.2)]) (
  some (some 0, [v0, v1], H)) := by kernel_rfl
theorem internal_bytealg_hashStr_string__eq (a0 : V) (H : VH) : cv id_internal_bytealg_hashStr_string_ [a0] H =
  (lpW' internal_bytealg_hashStr_string__l3 [a0, (.int .u32 0), (.int .i64 0)] H).bind fun r19 =>
  inN r19.1 [
  gotV 2 r19.2.1 fun v20 =>
  (vLenSV (v20 0)).bind fun x23_24 =>
  (lpW' internal_bytealg_hashStr_string__l8 [(v20 1), (.int .u32 1), (.int .u32 16777619), x23_24] r19.2.2).bind fun r46 =>
  inN r46.1 [
  gotV 2 r46.2.1 fun v47 =>
  some ((.tup [(v47 0), (v47 1)]), r46.2.2)]] := (callV_eq vb _ _ _ rfl).trans (by kernel_rfl)

/-! loop.example/mailwire/impl.isLocal : kind 1, moves [] -/
theorem impl_isLocal_eq (a0 : V) (H : VH) : cv id_impl_isLocal [a0] H =
  (vLenSV a0).bind fun x4_2 =>
  (vBinV (.int .i64) .leq x4_2 (.int .i64 30)).bind fun x5_3 =>
  ifGV x5_3 (
  (pc id_strings_Split [(frz H (strip a0)), (frz H (.str [46]))]).bind fun x8_6 =>
  (qc id_slices_ContainsFunc___string_string_ [(frz H x8_6), (frz H (.fn id_impl_isLocal_1 []))]).bind fun x9_7 =>
  (vUnV .not x9_7).bind fun x10_8 =>
  some (x10_8, H)) (
  some ((.bool false), H)) := (callV_eq vb _ _ _ rfl).trans (by kernel_rfl)

/-! strings.Split : kind 2, moves [] -/
theorem strings_Split_eq (a0 a1 : V) (H : VH) : cv id_strings_Split [a0, a1] H =
  (pc id_strings_genSplit [(frz H a0), (frz H a1), (frz H (.int .i64 0)), (frz H (.int .i64 (-1)))]).bind fun x7_3 =>
  some (x7_3, H) := (callV_eq vb _ _ _ rfl).trans (by kernel_rfl)

/-! strings.genSplit : kind 2, moves [] -/
noncomputable def strings_genSplit_l11 : List V → VH → Option (Option Nat × List V × VH) := roundV (vb.ctx cv lpW') (vb.b.ann 77) (vb.takes 77) ⟨⟨[0, 1, 2, 3, 9, 10], [], []⟩, [(.exit 0, ⟨[0, 9, 10], [], []⟩)]⟩ (loopIn Tryz.f77 11)
theorem strings_genSplit_l11_eq (v0 v1 v2 v3 v4 v5 : V) (H : VH) : strings_genSplit_l11 [v0, v1, v2, v3, v4, v5] H =
  (vBinV (.int .i64) .lss v5 v3).bind fun x36_34 =>
  ifVV x36_34 (
  (qc id_strings_Index [(frz H v0), (frz H v1)]).bind fun x39_37 =>
  (vBinV (.int .i64) .lss x39_37 (.int .i64 0)).bind fun x41_40 =>
  ifVV x41_40 (
  some (some 0, [(strip v0), v4, (strip v5)], H)) (
  (vBinV (.int .i64) .add (strip x39_37) v2).bind fun x47_46 =>
  (vSliceSV (strip v0) none (some x47_46)).bind fun x48_47 =>
  (vIdxV 1 (strip v4) (strip v5)).bind fun x49_48 =>
  (vOneV x48_47).bind fun y50 =>
  (stO x49_48 [y50] H).bind fun H51 =>
  (vLenSV (strip v1)).bind fun x53_55 =>
  (vBinV (.int .i64) .add (strip (strip x39_37)) x53_55).bind fun x54_56 =>
  (vSliceSV (strip (strip v0)) (some x54_56) none).bind fun x55_57 =>
  (vBinV (.int .i64) .add (strip (strip v5)) (.int .i64 1)).bind fun x57_60 =>
  some (none, [x55_57, (strip (strip v1)), (strip v2), (strip v3), v4, x57_60], H51))) (
  some (some 0, [v0, v4, (strip v5)], H)) := by kernel_rfl
theorem strings_genSplit_eq (a0 a1 a2 a3 : V) (H : VH) : cv id_strings_genSplit [a0, a1, a2, a3] H =
  (vBinV (.int .i64) .eql a3 (.int .i64 0)).bind fun x13_2 =>
  ifVV x13_2 (
  some ((.sl true []), H)) (
  (vBinV .str .eql a1 (.str [])).bind fun x15_5 =>
  ifVV x15_5 (
  (pc id_strings_explode [(frz H a0), (frz H (strip a3))]).bind fun x18_8 =>
  some (x18_8, H)) (
  (id (
  (vBinV (.int .i64) .lss (strip a3) (.int .i64 0)).bind fun x20_11 =>
  ifVV x20_11 (
  (qc id_strings_Count [(frz H a0), (frz H (strip a1))]).bind fun x23_14 =>
  (vBinV (.int .i64) .add x23_14 (.int .i64 1)).bind fun x24_15 =>
  some (0, [(strip a0), (strip (strip a1)), a2, x24_15], H)) (
  some (0, [a0, (strip a1), a2, (strip (strip a3))], H)) : Option (Nat × List V × VH))).bind fun r17 =>
  inN r17.1 [
  gotV 4 r17.2.1 fun v18 =>
  (vLenSV (v18 0)).bind fun x27_21 =>
  (vBinV (.int .i64) .add x27_21 (.int .i64 1)).bind fun x28_22 =>
  (vMinV (v18 3) x28_22).bind fun x29_23 =>
  (mkLenV 16 x29_23 x29_23).bind fun x31_26 =>
  (vBinV (.int .i64) .sub (strip x29_23) (.int .i64 1)).bind fun x33_29 =>
  (lpW' strings_genSplit_l11 [(strip (v18 0)), (v18 1), (v18 2), x33_29, (.obs r17.2.2.length 0 x31_26.1 1), (.int .i64 0)] (r17.2.2 ++ [repV x31_26.2 [(.str [])]])).bind fun r62 =>
  inN r62.1 [
  gotV 3 r62.2.1 fun v63 =>
  (vIdxV 1 (strip (v63 1)) (v63 2)).bind fun x61_67 =>
  (vOneV (v63 0)).bind fun y69 =>
  (stO x61_67 [y69] r62.2.2).bind fun H70 =>
  (vBinV (.int .i64) .add (strip (v63 2)) (.int .i64 1)).bind fun x64_73 =>
  (vSliceVV 1 (strip (v63 1)) none (some x64_73)).bind fun x65_74 =>
  some (x65_74, H70)]])) := (callV_eq vb _ _ _ rfl).trans (by kernel_rfl)

/-! strings.explode : kind 2, moves [] -/
noncomputable def strings_explode_l6 : List V → VH → Option (Option Nat × List V × VH) := roundV (vb.ctx cv lpW') (vb.b.ann 94) (vb.takes 94) ⟨⟨[0, 1, 6, 7], [], []⟩, [(.exit 0, ⟨[0, 1, 6], [], []⟩)]⟩ (loopIn Tryz.f94 6)
theorem strings_explode_l6_eq (v0 v1 v2 v3 : V) (H : VH) : strings_explode_l6 [v0, v1, v2, v3] H =
  (vBinV (.int .i64) .sub v1 (.int .i64 1)).bind fun x24_24 =>
  (vBinV (.int .i64) .lss v3 x24_24).bind fun x25_25 =>
  ifVV x25_25 (
  (qc id_unicode_utf8_DecodeRuneInString [(frz H v0)]).bind fun x30_27 =>
  (vExtV x30_27 0).bind fun x31_29 =>
  (vExtV x30_27 1).bind fun x32_30 =>
  (vSliceSV (strip v0) none (some (strip x32_30))).bind fun x37_37 =>
  (vIdxV 1 (strip v2) (strip v3)).bind fun x38_38 =>
  (vOneV x37_37).bind fun y40 =>
  (stO x38_38 [y40] H).bind fun H41 =>
  (vSliceSV (strip (strip v0)) (some (strip (strip x32_30))) none).bind fun x41_44 =>
  (vBinV (.int .i64) .add (strip (strip v3)) (.int .i64 1)).bind fun x27_47 =>
  some (none, [x41_44, (strip v1), v2, x27_47], H41)) (
  some (some 0, [v0, (strip v1), v2], H)) := by kernel_rfl
theorem strings_explode_eq (a0 a1 : V) (H : VH) : cv id_strings_explode [a0, a1] H =
  (qc id_unicode_utf8_RuneCountInString [(frz H a0)]).bind fun x11_2 =>
  (id (
  (vBinV (.int .i64) .lss a1 (.int .i64 0)).bind fun x13_5 =>
  ifGV x13_5 (
  some (0, [(strip a0), x11_2], H)) (
  (vBinV (.int .i64) .gtr (strip a1) x11_2).bind fun x17_12 =>
  ifVV x17_12 (
  some (0, [(strip a0), (strip x11_2)], H)) (
  some (0, [(strip a0), (strip (strip a1))], H))) : Option (Nat × List V × VH))).bind fun r16 =>
  inN r16.1 [
  gotV 2 r16.2.1 fun v17 =>
  (mkLenV 16 (v17 1) (v17 1)).bind fun x21_19 =>
  (lpW' strings_explode_l6 [(v17 0), (strip (v17 1)), (.obs r16.2.2.length 0 x21_19.1 1), (.int .i64 0)] (r16.2.2 ++ [repV x21_19.2 [(.str [])]])).bind fun r49 =>
  inN r49.1 [
  gotV 3 r49.2.1 fun v50 =>
  (vBinV (.int .i64) .gtr (v50 1) (.int .i64 0)).bind fun x43_52 =>
  ifVV x43_52 (
  (vBinV (.int .i64) .sub (strip (v50 1)) (.int .i64 1)).bind fun x46_55 =>
  (vIdxV 1 (strip (v50 2)) x46_55).bind fun x48_57 =>
  (vOneV (v50 0)).bind fun y59 =>
  (stO x48_57 [y59] r49.2.2).bind fun H60 =>
  some ((v50 2), H60)) (
  some ((v50 2), r49.2.2))]] := (callV_eq vb _ _ _ rfl).trans (by kernel_rfl)

/-! unicode/utf8.RuneCountInString : kind 1, moves [] -/
theorem unicode_utf8_RuneCountInString_eq (a0 : V) (H : VH) : cv id_unicode_utf8_RuneCountInString [a0] H =
  none := (callV_eq vb _ _ _ rfl).trans (by kernel_rfl)

/-! unicode/utf8.DecodeRuneInString : kind 1, moves [] -/
theorem unicode_utf8_DecodeRuneInString_eq (a0 : V) (H : VH) : cv id_unicode_utf8_DecodeRuneInString [a0] H =
  (vBinV .str .neq a0 (.str [])).bind fun x5_3 =>
  ifGV x5_3 (
  (vIndexSV (strip a0) (.int .i64 0)).bind fun x8_6 =>
  (vBinV (.int .u8) .lss x8_6 (.int .u8 128)).bind fun x9_7 =>
  ifVV x9_7 (
  (vIndexSV (strip (strip a0)) (.int .i64 0)).bind fun x12_10 =>
  (vConvV .i32 x12_10).bind fun x13_11 =>
  some ((.tup [x13_11, (.int .i64 1)]), H)) (
  (qc id_unicode_utf8_decodeRuneInStringSlow [(frz H (strip (strip a0)))]).bind fun x16_15 =>
  (vExtV x16_15 0).bind fun x17_17 =>
  (vExtV x16_15 1).bind fun x18_18 =>
  some ((.tup [(strip x17_17), (strip x18_18)]), H))) (
  (qc id_unicode_utf8_decodeRuneInStringSlow [(frz H (strip a0))]).bind fun x16_23 =>
  (vExtV x16_23 0).bind fun x17_25 =>
  (vExtV x16_23 1).bind fun x18_26 =>
  some ((.tup [(strip x17_25), (strip x18_26)]), H)) := (callV_eq vb _ _ _ rfl).trans (by kernel_rfl)

/-! unicode/utf8.decodeRuneInStringSlow : kind 1, moves [] -/
theorem unicode_utf8_decodeRuneInStringSlow_eq (a0 : V) (H : VH) : cv id_unicode_utf8_decodeRuneInStringSlow [a0] H =
  (vLenSV a0).bind fun x14_3 =>
  (vBinV (.int .i64) .lss x14_3 (.int .i64 1)).bind fun x16_6 =>
  ifVV x16_6 (
  some ((.tup [(.int .i32 65533), (.int .i64 0)]), H)) (
  (vIndexSV (strip a0) (.int .i64 0)).bind fun x18_10 =>
  none) := (callV_eq vb _ _ _ rfl).trans (by kernel_rfl)

/-! strings.Count : kind 1, moves [] -/
noncomputable def strings_Count_l6 : List V → VH → Option (Option Nat × List V × VH) := roundV (vb.ctx cv lpW') (vb.b.ann 95) (vb.takes 95) ⟨⟨[0, 1, 5], [], []⟩, [(.ret, ⟨[4], [], []⟩)]⟩ (loopIn Tryz.f95 6)
theorem strings_Count_l6_eq (v0 v1 v2 : V) (H : VH) : strings_Count_l6 [v0, v1, v2] H =
  (qc id_strings_Index [(frz H v0), (frz H v1)]).bind fun x22_19 =>
  (vBinV (.int .i64) .eql x22_19 (.int .i64 (-1))).bind fun x24_22 =>
  ifVV x24_22 (
  some (some 0, [v2], H)) (
  (vBinV (.int .i64) .add v2 (.int .i64 1)).bind fun x27_26 =>
  (vLenSV (strip v1)).bind fun x31_31 =>
  (vBinV (.int .i64) .add (strip x22_19) x31_31).bind fun x32_32 =>
  (vSliceSV (strip v0) (some x32_32) none).bind fun x33_33 =>
  some (none, [x33_33, (strip (strip v1)), x27_26], H)) := by kernel_rfl
theorem strings_Count_eq (a0 a1 : V) (H : VH) : cv id_strings_Count [a0, a1] H =
  (vLenSV a1).bind fun x8_2 =>
  (vBinV (.int .i64) .eql x8_2 (.int .i64 0)).bind fun x9_3 =>
  ifVV x9_3 (
  (qc id_unicode_utf8_RuneCountInString [(frz H a0)]).bind fun x11_5 =>
  (vBinV (.int .i64) .add x11_5 (.int .i64 1)).bind fun x12_6 =>
  some (x12_6, H)) (
  (vLenSV (strip a1)).bind fun x14_9 =>
  (vBinV (.int .i64) .eql x14_9 (.int .i64 1)).bind fun x15_10 =>
  ifVV x15_10 (
  (vIndexSV (strip (strip a1)) (.int .i64 0)).bind fun x18_13 =>
  (extB 1 [a0, x18_13] fun x19_14 =>
    some (x19_14, H))) (
  (lpW' strings_Count_l6 [a0, (strip (strip a1)), (.int .i64 0)] H).bind fun r35 =>
  inN r35.1 [
  gotV 1 r35.2.1 fun v36 =>
  some ((v36 0), r35.2.2)])) := (callV_eq vb _ _ _ rfl).trans (by kernel_rfl)

/-! strings.Index : kind 1, moves [] -/
theorem strings_Index_eq (a0 a1 : V) (H : VH) : cv id_strings_Index [a0, a1] H =
  (qc id_internal_stringslite_Index [(frz H a0), (frz H a1)]).bind fun x7_3 =>
  some (x7_3, H) := (callV_eq vb _ _ _ rfl).trans (by kernel_rfl)

/-! slices.ContainsFunc[[]string,string] : kind 1, moves [] -/
theorem slices_ContainsFunc___string_string__eq (a0 a1 : V) (H : VH) : cv id_slices_ContainsFunc___string_string_ [a0, a1] H =
  (qc id_slices_IndexFunc___string_string_ [(frz H (strip a0)), (frz H a1)]).bind fun x7_3 =>
  (vBinV (.int .i64) .geq x7_3 (.int .i64 0)).bind fun x8_4 =>
  some (x8_4, H) := (callV_eq vb _ _ _ rfl).trans (by kernel_rfl)

/-! slices.IndexFunc[[]string,string] : kind 1, moves [] -/
noncomputable def slices_IndexFunc___string_string__l2 : List V → VH → Option (Option Nat × List V × VH) := roundV (vb.ctx cv lpW') (vb.b.ann 72) (vb.takes 72) ⟨⟨[0, 1, 7, 8], [], []⟩, [(.exit 0, ⟨[], [], []⟩), (.ret, ⟨[4], [], []⟩)]⟩ (loopIn Tryz.f72 2)
theorem slices_IndexFunc___string_string__l2_eq (v0 v1 v2 v3 : V) (H : VH) : slices_IndexFunc___string_string__l2 [v0, v1, v2, v3] H =
  (vBinV (.int .i64) .lss v3 v2).bind fun x9_4 =>
  ifVV x9_4 (
  (vIdxV 1 (strip v0) v3).bind fun x14_10 =>
  (ldO globB false false 1 x14_10 H).bind fun r12 =>
  (calleeV v1).bind fun p14 =>
  (qc p14.1 ((([r12.1] : List V) ++ p14.2).map (frz r12.2))).bind fun x16_13 =>
  ifVV x16_13 (
  some (some 1, [(strip v3)], r12.2)) (
  (vBinV (.int .i64) .add (strip v3) (.int .i64 1)).bind fun x18_17 =>
  some (none, [v0, (strip v1), v2, x18_17], r12.2))) (
  some (some 0, [], H)) := by kernel_rfl
theorem slices_IndexFunc___string_string__eq (a0 a1 : V) (H : VH) : cv id_slices_IndexFunc___string_string_ [a0, a1] H =
  (vLenVV (strip a0)).bind fun x7_2 =>
  (lpW' slices_IndexFunc___string_string__l2 [a0, a1, x7_2, (.int .i64 0)] H).bind fun r19 =>
  inN r19.1 [
  gotV 0 r19.2.1 fun v20 =>
  some ((.int .i64 (-1)), r19.2.2),
  gotV 1 r19.2.1 fun v22 =>
  some ((v22 0), r19.2.2)] := (callV_eq vb _ _ _ rfl).trans (by kernel_rfl)

/-! loop.example/mailwire/impl.isLocal$1 : kind 1, moves [] -/
theorem impl_isLocal_1_eq (a0 : V) (H : VH) : cv id_impl_isLocal_1 [a0] H =
  (qc id_impl_AtomValid [(frz H a0)]).bind fun x4_2 =>
  (vUnV .not x4_2).bind fun x5_3 =>
  some (x5_3, H) := (callV_eq vb _ _ _ rfl).trans (by kernel_rfl)

/-! loop.example/mailwire/impl.AtomValid : kind 1, moves [] -/
theorem impl_AtomValid_eq (a0 : V) (H : VH) : cv id_impl_AtomValid [a0] H =
  (vLenSV a0).bind fun x4_2 =>
  (vBinV (.int .i64) .geq x4_2 (.int .i64 1)).bind fun x5_3 =>
  ifGV x5_3 (
  (vLenSV (strip a0)).bind fun x8_6 =>
  (vBinV (.int .i64) .leq x8_6 (.int .i64 40)).bind fun x9_7 =>
  ifGV x9_7 (
  (qc id_impl_allBytes [(frz H (strip (strip a0))), (frz H (.fn id_impl_isAtomByte []))]).bind fun x13_11 =>
  some (x13_11, H)) (
  some ((.bool false), H))) (
  some ((.bool false), H)) := (callV_eq vb _ _ _ rfl).trans (by kernel_rfl)

/-! loop.example/mailwire/impl.allBytes : kind 1, moves [] -/
noncomputable def impl_allBytes_l2 : List V → VH → Option (Option Nat × List V × VH) := roundV (vb.ctx cv lpW') (vb.b.ann 78) (vb.takes 78) ⟨⟨[0, 1, 7, 8], [], []⟩, [(.exit 0, ⟨[], [], []⟩), (.ret, ⟨[4], [], []⟩)]⟩ (loopIn Tryz.f78 2)
theorem impl_allBytes_l2_eq (v0 v1 v2 v3 : V) (H : VH) : impl_allBytes_l2 [v0, v1, v2, v3] H =
  (vBinV (.int .i64) .lss v3 v2).bind fun x9_4 =>
  ifVV x9_4 (
  (vIndexSV v0 v3).bind fun x14_10 =>
  (calleeV v1).bind fun p12 =>
  (qc p12.1 ((([x14_10] : List V) ++ p12.2).map (frz H))).bind fun x15_11 =>
  (vUnV .not x15_11).bind fun x16_13 =>
  ifVV x16_13 (
  some (some 1, [(.bool false)], H)) (
  (vBinV (.int .i64) .add (strip v3) (.int .i64 1)).bind fun x17_15 =>
  some (none, [(strip v0), (strip v1), v2, x17_15], H))) (
  some (some 0, [], H)) := by kernel_rfl
theorem impl_allBytes_eq (a0 a1 : V) (H : VH) : cv id_impl_allBytes [a0, a1] H =
  (vLenSV a0).bind fun x7_2 =>
  (lpW' impl_allBytes_l2 [(strip a0), a1, x7_2, (.int .i64 0)] H).bind fun r17 =>
  inN r17.1 [
  gotV 0 r17.2.1 fun v18 =>
  some ((.bool true), r17.2.2),
  gotV 1 r17.2.1 fun v20 =>
  some ((v20 0), r17.2.2)] := (callV_eq vb _ _ _ rfl).trans (by kernel_rfl)

/-! loop.example/mailwire/impl.isAtomByte : kind 1, moves [] -/
theorem impl_isAtomByte_eq (a0 : V) (H : VH) : cv id_impl_isAtomByte [a0] H =
  (qc id_impl_isLetter [(frz H a0)]).bind fun x4_2 =>
  ifGV x4_2 (
  some ((.bool true), H)) (
  (qc id_impl_isDigit [(frz H (strip a0))]).bind fun x7_27 =>
  ifGV x7_27 (
  some ((.bool true), H)) (
  (vBinV (.int .u8) .eql (strip (strip a0)) (.int .u8 33)).bind fun x11_51 =>
  ifGV x11_51 (
  some ((.bool true), H)) (
  (vBinV (.int .u8) .geq (strip (strip (strip a0))) (.int .u8 35)).bind fun x15_73 =>
  ifGV x15_73 (
  (vBinV (.int .u8) .leq (strip (strip (strip (strip a0)))) (.int .u8 39)).bind fun x18_76 =>
  ifGV x18_76 (
  some ((.bool true), H)) (
  (vBinV (.int .u8) .eql (strip (strip (strip (strip (strip a0))))) (.int .u8 42)).bind fun x23_97 =>
  ifGV x23_97 (
  some ((.bool true), H)) (
  (vBinV (.int .u8) .eql (strip (strip (strip (strip (strip (strip a0)))))) (.int .u8 43)).bind fun x27_115 =>
  ifGV x27_115 (
  some ((.bool true), H)) (
  (vBinV (.int .u8) .eql (strip (strip (strip (strip (strip (strip (strip a0))))))) (.int .u8 45)).bind fun x31_131 =>
  ifGV x31_131 (
  some ((.bool true), H)) (
  (vBinV (.int .u8) .eql (strip (strip (strip (strip (strip (strip (strip (strip a0)))))))) (.int .u8 47)).bind fun x35_145 =>
  ifGV x35_145 (
  some ((.bool true), H)) (
  (vBinV (.int .u8) .eql (strip (strip (strip (strip (strip (strip (strip (strip (strip a0))))))))) (.int .u8 61)).bind fun x39_157 =>
  ifGV x39_157 (
  some ((.bool true), H)) (
  (vBinV (.int .u8) .eql (strip (strip (strip (strip (strip (strip (strip (strip (strip (strip a0)))))))))) (.int .u8 63)).bind fun x43_167 =>
  ifGV x43_167 (
  some ((.bool true), H)) (
  (vBinV (.int .u8) .geq (strip (strip (strip (strip (strip (strip (strip (strip (strip (strip (strip a0))))))))))) (.int .u8 94)).bind fun x47_175 =>
  ifGV x47_175 (
  (vBinV (.int .u8) .leq (strip (strip (strip (strip (strip (strip (strip (strip (strip (strip (strip (strip a0)))))))))))) (.int .u8 96)).bind fun x50_178 =>
  ifGV x50_178 (
  some ((.bool true), H)) (
  (vBinV (.int .u8) .geq (strip (strip (strip (strip (strip (strip (strip (strip (strip (strip (strip (strip (strip a0))))))))))))) (.int .u8 123)).bind fun x55_185 =>
  ifGV x55_185 (
  (vBinV (.int .u8) .leq (strip (strip (strip (strip (strip (strip (strip (strip (strip (strip (strip (strip (strip (strip a0)))))))))))))) (.int .u8 126)).bind fun x58_188 =>
  some (x58_188, H)) (
  some ((.bool false), H)))) (
  (vBinV (.int .u8) .geq (strip (strip (strip (strip (strip (strip (strip (strip (strip (strip (strip (strip a0)))))))))))) (.int .u8 123)).bind fun x55_199 =>
  ifGV x55_199 (
  (vBinV (.int .u8) .leq (strip (strip (strip (strip (strip (strip (strip (strip (strip (strip (strip (strip (strip a0))))))))))))) (.int .u8 126)).bind fun x58_202 =>
  some (x58_202, H)) (
  some ((.bool false), H))))))))))) (
  (vBinV (.int .u8) .eql (strip (strip (strip (strip a0)))) (.int .u8 42)).bind fun x23_213 =>
  ifGV x23_213 (
  some ((.bool true), H)) (
  (vBinV (.int .u8) .eql (strip (strip (strip (strip (strip a0))))) (.int .u8 43)).bind fun x27_231 =>
  ifGV x27_231 (
  some ((.bool true), H)) (
  (vBinV (.int .u8) .eql (strip (strip (strip (strip (strip (strip a0)))))) (.int .u8 45)).bind fun x31_247 =>
  ifGV x31_247 (
  some ((.bool true), H)) (
  (vBinV (.int .u8) .eql (strip (strip (strip (strip (strip (strip (strip a0))))))) (.int .u8 47)).bind fun x35_261 =>
  ifGV x35_261 (
  some ((.bool true), H)) (
  (vBinV (.int .u8) .eql (strip (strip (strip (strip (strip (strip (strip (strip a0)))))))) (.int .u8 61)).bind fun x39_273 =>
  ifGV x39_273 (
  some ((.bool true), H)) (
  (vBinV (.int .u8) .eql (strip (strip (strip (strip (strip (strip (strip (strip (strip a0))))))))) (.int .u8 63)).bind fun x43_283 =>
  ifGV x43_283 (
  some ((.bool true), H)) (
  (vBinV (.int .u8) .geq (strip (strip (strip (strip (strip (strip (strip (strip (strip (strip a0)))))))))) (.int .u8 94)).bind fun x47_291 =>
  ifGV x47_291 (
  (vBinV (.int .u8) .leq (strip (strip (strip (strip (strip (strip (strip (strip (strip (strip (strip a0))))))))))) (.int .u8 96)).bind fun x50_294 =>
  ifGV x50_294 (
  some ((.bool true), H)) (
  (vBinV (.int .u8) .geq (strip (strip (strip (strip (strip (strip (strip (strip (strip (strip (strip (strip a0)))))))))))) (.int .u8 123)).bind fun x55_301 =>
  ifGV x55_301 (
  (vBinV (.int .u8) .leq (strip (strip (strip (strip (strip (strip (strip (strip (strip (strip (strip (strip (strip a0))))))))))))) (.int .u8 126)).bind fun x58_304 =>
  some (x58_304, H)) (
  some ((.bool false), H)))) (
  (vBinV (.int .u8) .geq (strip (strip (strip (strip (strip (strip (strip (strip (strip (strip (strip a0))))))))))) (.int .u8 123)).bind fun x55_315 =>
  ifGV x55_315 (
  (vBinV (.int .u8) .leq (strip (strip (strip (strip (strip (strip (strip (strip (strip (strip (strip (strip a0)))))))))))) (.int .u8 126)).bind fun x58_318 =>
  some (x58_318, H)) (
  some ((.bool false), H))))))))))))) := (callV_eq vb _ _ _ rfl).trans (by kernel_rfl)

/-! loop.example/mailwire/impl.isLetter : kind 1, moves [] -/
theorem impl_isLetter_eq (a0 : V) (H : VH) : cv id_impl_isLetter [a0] H =
  (vBinV (.int .u8) .geq a0 (.int .u8 97)).bind fun x4_2 =>
  ifGV x4_2 (
  (vBinV (.int .u8) .leq (strip a0) (.int .u8 122)).bind fun x7_5 =>
  ifGV x7_5 (
  some ((.bool true), H)) (
  (vBinV (.int .u8) .geq (strip (strip a0)) (.int .u8 65)).bind fun x11_11 =>
  ifGV x11_11 (
  (vBinV (.int .u8) .leq (strip (strip (strip a0))) (.int .u8 90)).bind fun x14_14 =>
  some (x14_14, H)) (
  some ((.bool false), H)))) (
  (vBinV (.int .u8) .geq (strip a0) (.int .u8 65)).bind fun x11_24 =>
  ifGV x11_24 (
  (vBinV (.int .u8) .leq (strip (strip a0)) (.int .u8 90)).bind fun x14_27 =>
  some (x14_27, H)) (
  some ((.bool false), H))) := (callV_eq vb _ _ _ rfl).trans (by kernel_rfl)

/-! loop.example/mailwire/impl.isDigit : kind 1, moves [] -/
theorem impl_isDigit_eq (a0 : V) (H : VH) : cv id_impl_isDigit [a0] H =
  (vBinV (.int .u8) .geq a0 (.int .u8 48)).bind fun x4_2 =>
  ifGV x4_2 (
  (vBinV (.int .u8) .leq (strip a0) (.int .u8 57)).bind fun x7_5 =>
  some (x7_5, H)) (
  some ((.bool false), H)) := (callV_eq vb _ _ _ rfl).trans (by kernel_rfl)

/-! loop.example/mailwire/impl.isDomain : kind 1, moves [] -/
theorem impl_isDomain_eq (a0 : V) (H : VH) : cv id_impl_isDomain [a0] H =
  (vLenSV a0).bind fun x4_2 =>
  (vBinV (.int .i64) .leq x4_2 (.int .i64 40)).bind fun x5_3 =>
  ifGV x5_3 (
  (pc id_strings_Split [(frz H (strip a0)), (frz H (.str [46]))]).bind fun x8_6 =>
  (qc id_slices_ContainsFunc___string_string_ [(frz H x8_6), (frz H (.fn id_impl_isDomain_1 []))]).bind fun x9_7 =>
  (vUnV .not x9_7).bind fun x10_8 =>
  some (x10_8, H)) (
  some ((.bool false), H)) := (callV_eq vb _ _ _ rfl).trans (by kernel_rfl)

/-! loop.example/mailwire/impl.isDomain$1 : kind 1, moves [] -/
theorem impl_isDomain_1_eq (a0 : V) (H : VH) : cv id_impl_isDomain_1 [a0] H =
  (qc id_impl_isLabel [(frz H a0)]).bind fun x4_2 =>
  (vUnV .not x4_2).bind fun x5_3 =>
  some (x5_3, H) := (callV_eq vb _ _ _ rfl).trans (by kernel_rfl)

/-! loop.example/mailwire/impl.isLabel : kind 1, moves [] -/
theorem impl_isLabel_eq (a0 : V) (H : VH) : cv id_impl_isLabel [a0] H =
  (vBinV .str .neq a0 (.str [])).bind fun x4_2 =>
  ifGV x4_2 (
  (vIndexSV (strip a0) (.int .i64 0)).bind fun x7_5 =>
  (vBinV (.int .u8) .neq x7_5 (.int .u8 45)).bind fun x8_6 =>
  ifGV x8_6 (
  (vLenSV (strip (strip (strip a0)))).bind fun x13_11 =>
  (vBinV (.int .i64) .sub x13_11 (.int .i64 1)).bind fun x14_12 =>
  (vIndexSV (strip (strip a0)) x14_12).bind fun x15_13 =>
  (vBinV (.int .u8) .neq x15_13 (.int .u8 45)).bind fun x16_14 =>
  ifGV x16_14 (
  (qc id_impl_allBytes [(frz H (strip (strip (strip (strip a0))))), (frz H (.fn id_impl_isLabel_1 []))]).bind fun x20_18 =>
  some (x20_18, H)) (
  some ((.bool false), H))) (
  some ((.bool false), H))) (
  some ((.bool false), H)) := (callV_eq vb _ _ _ rfl).trans (by kernel_rfl)

/-! loop.example/mailwire/impl.isLabel$1 : kind 1, moves [] -/
theorem impl_isLabel_1_eq (a0 : V) (H : VH) : cv id_impl_isLabel_1 [a0] H =
  (vBinV (.int .u8) .geq a0 (.int .u8 97)).bind fun x4_2 =>
  ifGV x4_2 (
  (vBinV (.int .u8) .leq (strip a0) (.int .u8 122)).bind fun x7_5 =>
  ifGV x7_5 (
  some ((.bool true), H)) (
  (qc id_impl_isDigit [(frz H (strip (strip a0)))]).bind fun x11_13 =>
  ifGV x11_13 (
  some ((.bool true), H)) (
  (vBinV (.int .u8) .eql (strip (strip (strip a0))) (.int .u8 45)).bind fun x15_19 =>
  some (x15_19, H)))) (
  (qc id_impl_isDigit [(frz H (strip a0))]).bind fun x11_25 =>
  ifGV x11_25 (
  some ((.bool true), H)) (
  (vBinV (.int .u8) .eql (strip (strip a0)) (.int .u8 45)).bind fun x15_31 =>
  some (x15_31, H))) := (callV_eq vb _ _ _ rfl).trans (by kernel_rfl)

/-! loop.example/mailwire/impl.draftValid$1 : kind 1, moves [] -/
theorem impl_draftValid_1_eq (a0 : V) (H : VH) : cv id_impl_draftValid_1 [a0] H =
  (qc id_impl_isPath [(frz H a0)]).bind fun x4_2 =>
  (vUnV .not x4_2).bind fun x5_3 =>
  some (x5_3, H) := (callV_eq vb _ _ _ rfl).trans (by kernel_rfl)

/-! loop.example/mailwire/impl.areTexts : kind 1, moves [] -/
theorem impl_areTexts_eq (a0 a1 : V) (H : VH) : cv id_impl_areTexts [a0, a1] H =
  (vLenVV (strip a0)).bind fun x6_2 =>
  (vBinV (.int .i64) .leq x6_2 a1).bind fun x8_4 =>
  ifGV x8_4 (
  (qc id_slices_ContainsFunc___string_string_ [(frz H (strip a0)), (frz H (.fn id_impl_areTexts_1 []))]).bind fun x11_7 =>
  (vUnV .not x11_7).bind fun x12_8 =>
  some (x12_8, H)) (
  some ((.bool false), H)) := (callV_eq vb _ _ _ rfl).trans (by kernel_rfl)

/-! loop.example/mailwire/impl.areTexts$1 : kind 1, moves [] -/
theorem impl_areTexts_1_eq (a0 : V) (H : VH) : cv id_impl_areTexts_1 [a0] H =
  (qc id_impl_TextValid [(frz H a0)]).bind fun x4_2 =>
  (vUnV .not x4_2).bind fun x5_3 =>
  some (x5_3, H) := (callV_eq vb _ _ _ rfl).trans (by kernel_rfl)

/-! loop.example/mailwire/impl.TextValid : kind 1, moves [] -/
noncomputable def impl_TextValid_l2 : List V → VH → Option (Option Nat × List V × VH) := roundV (vb.ctx cv lpW') (vb.b.ann 38) (vb.takes 38) ⟨⟨[0, 5, 6], [], []⟩, [(.exit 0, ⟨[0], [], []⟩), (.ret, ⟨[2], [], []⟩)]⟩ (loopIn Tryz.f38 2)
theorem impl_TextValid_l2_eq (v0 v1 v2 : V) (H : VH) : impl_TextValid_l2 [v0, v1, v2] H =
  (vBinV (.int .i64) .lss v2 v1).bind fun x7_4 =>
  ifVV x7_4 (
  (vIndexSV v0 v2).bind fun x11_9 =>
  (vBinV (.int .u8) .lss x11_9 (.int .u8 32)).bind fun x12_10 =>
  ifGV x12_10 (
  some (some 1, [(.bool false)], H)) (
  (vIndexSV (strip v0) (strip v2)).bind fun x16_16 =>
  (vBinV (.int .u8) .gtr x16_16 (.int .u8 126)).bind fun x17_17 =>
  ifVV x17_17 (
  some (some 1, [(.bool false)], H)) (
  (vBinV (.int .i64) .add (strip v2) (.int .i64 1)).bind fun x19_20 =>
  some (none, [(strip (strip v0)), v1, x19_20], H)))) (
  some (some 0, [v0], H)) := by kernel_rfl
theorem impl_TextValid_eq (a0 : V) (H : VH) : cv id_impl_TextValid [a0] H =
  (vLenSV a0).bind fun x5_2 =>
  (lpW' impl_TextValid_l2 [(strip a0), x5_2, (.int .i64 0)] H).bind fun r22 =>
  inN r22.1 [
  gotV 1 r22.2.1 fun v23 =>
  (vLenSV (v23 0)).bind fun x21_25 =>
  (vBinV (.int .i64) .leq x21_25 (.int .i64 200)).bind fun x22_26 =>
  some (x22_26, r22.2.2),
  gotV 1 r22.2.1 fun v28 =>
  some ((v28 0), r22.2.2)] := (callV_eq vb _ _ _ rfl).trans (by kernel_rfl)

/-! loop.example/mailwire/impl.mailsValid : kind 1, moves [] -/
theorem impl_mailsValid_eq (a0 a1 : V) (H : VH) : cv id_impl_mailsValid [a0, a1] H =
  (vLenVV (strip a0)).bind fun x6_2 =>
  (vBinV (.int .i64) .leq x6_2 a1).bind fun x8_4 =>
  ifGV x8_4 (
  (qc id_slices_ContainsFunc___impl_Mail_impl_Mail_ [(frz H (strip a0)), (frz H (.fn id_impl_mailsValid_1 []))]).bind fun x11_7 =>
  (vUnV .not x11_7).bind fun x12_8 =>
  some (x12_8, H)) (
  some ((.bool false), H)) := (callV_eq vb _ _ _ rfl).trans (by kernel_rfl)

/-! slices.ContainsFunc[[]loop.example/mailwire/impl.Mail,loop.example/mailwire/impl.Mail] : kind 1, moves [] -/
theorem slices_ContainsFunc___impl_Mail_impl_Mail__eq (a0 a1 : V) (H : VH) : cv id_slices_ContainsFunc___impl_Mail_impl_Mail_ [a0, a1] H =
  (qc id_slices_IndexFunc___impl_Mail_impl_Mail_ [(frz H (strip a0)), (frz H a1)]).bind fun x7_3 =>
  (vBinV (.int .i64) .geq x7_3 (.int .i64 0)).bind fun x8_4 =>
  some (x8_4, H) := (callV_eq vb _ _ _ rfl).trans (by kernel_rfl)

/-! slices.IndexFunc[[]loop.example/mailwire/impl.Mail,loop.example/mailwire/impl.Mail] : kind 1, moves [] -/
noncomputable def slices_IndexFunc___impl_Mail_impl_Mail__l2 : List V → VH → Option (Option Nat × List V × VH) := roundV (vb.ctx cv lpW') (vb.b.ann 76) (vb.takes 76) ⟨⟨[0, 1, 7, 8], [], []⟩, [(.exit 0, ⟨[], [], []⟩), (.ret, ⟨[4], [], []⟩)]⟩ (loopIn Tryz.f76 2)
theorem slices_IndexFunc___impl_Mail_impl_Mail__l2_eq (v0 v1 v2 v3 : V) (H : VH) : slices_IndexFunc___impl_Mail_impl_Mail__l2 [v0, v1, v2, v3] H =
  (vBinV (.int .i64) .lss v3 v2).bind fun x9_4 =>
  ifVV x9_4 (
  (vIdxV 3 (strip v0) v3).bind fun x14_10 =>
  (ldO globB false true 3 x14_10 H).bind fun r12 =>
  (calleeV v1).bind fun p14 =>
  (qc p14.1 ((([r12.1] : List V) ++ p14.2).map (frz r12.2))).bind fun x16_13 =>
  ifVV x16_13 (
  some (some 1, [(strip v3)], r12.2)) (
  (vBinV (.int .i64) .add (strip v3) (.int .i64 1)).bind fun x18_17 =>
  some (none, [v0, (strip v1), v2, x18_17], r12.2))) (
  some (some 0, [], H)) := by kernel_rfl
theorem slices_IndexFunc___impl_Mail_impl_Mail__eq (a0 a1 : V) (H : VH) : cv id_slices_IndexFunc___impl_Mail_impl_Mail_ [a0, a1] H =
  (vLenVV (strip a0)).bind fun x7_2 =>
  (lpW' slices_IndexFunc___impl_Mail_impl_Mail__l2 [a0, a1, x7_2, (.int .i64 0)] H).bind fun r19 =>
  inN r19.1 [
  gotV 0 r19.2.1 fun v20 =>
  some ((.int .i64 (-1)), r19.2.2),
  gotV 1 r19.2.1 fun v22 =>
  some ((v22 0), r19.2.2)] := (callV_eq vb _ _ _ rfl).trans (by kernel_rfl)

/-! loop.example/mailwire/impl.mailsValid$1 : kind 1, moves [] -/
theorem impl_mailsValid_1_eq (a0 : V) (H : VH) : cv id_impl_mailsValid_1 [a0] H =
  (aggNV 3 a0).bind fun c1 =>
  (qc id_impl_MailValid [(frz H (.agg [(strip (c1.getD 0 .nilp)), (strip (c1.getD 1 .nilp)), (strip (c1.getD 2 .nilp))]))]).bind fun x4_4 =>
  (vUnV .not x4_4).bind fun x5_5 =>
  some (x5_5, H) := (callV_eq vb _ _ _ rfl).trans (by kernel_rfl)

/-! loop.example/mailwire/impl.MailValid : kind 1, moves [] -/
theorem impl_MailValid_eq (a0 : V) (H : VH) : cv id_impl_MailValid [a0] H =
  (aggNV 3 a0).bind fun c1 =>
  (qc id_impl_draftValid [(frz H (.agg [(strip (c1.getD 0 .nilp)), (strip (c1.getD 1 .nilp)), (strip (c1.getD 2 .nilp))])), (frz H (.int .i64 1)), (frz H (.int .i64 30))]).bind fun x4_4 =>
  some (x4_4, H) := (callV_eq vb _ _ _ rfl).trans (by kernel_rfl)

/-! loop.example/mailwire/impl.copySession : kind 2, moves [] -/
theorem impl_copySession_eq (a0 : V) (H : VH) : cv id_impl_copySession [a0] H =
  (aggNV 6 a0).bind fun c1 =>
  (pc id_impl_copyMail [(frz H (.agg [(strip (c1.getD 2 .nilp)), (strip (c1.getD 3 .nilp)), (strip (c1.getD 4 .nilp))]))]).bind fun x9_9 =>
  (pc id_impl_copyMails [(frz H (strip (c1.getD 5 .nilp)))]).bind fun x12_12 =>
  (vOneV (strip (c1.getD 0 .nilp))).bind fun y14 =>
  (vOneV (strip (c1.getD 1 .nilp))).bind fun y15 =>
  (aggNV 3 x9_9).bind fun c16 =>
  (vOneV x12_12).bind fun y17 =>
  some ((.agg [y14, y15, (c16.getD 0 .nilp), (c16.getD 1 .nilp), (c16.getD 2 .nilp), y17]), H) := (callV_eq vb _ _ _ rfl).trans (by kernel_rfl)

/-! loop.example/mailwire/impl.copyMail : kind 2, moves [] -/
theorem impl_copyMail_eq (a0 : V) (H : VH) : cv id_impl_copyMail [a0] H =
  (aggNV 3 a0).bind fun c1 =>
  (pc id_slices_Clone___string_string_ [(frz H (strip (c1.getD 1 .nilp)))]).bind fun x7_7 =>
  (pc id_slices_Clone___string_string_ [(frz H (strip (c1.getD 2 .nilp)))]).bind fun x10_10 =>
  (vOneV (strip (c1.getD 0 .nilp))).bind fun y12 =>
  (vOneV x7_7).bind fun y13 =>
  (vOneV x10_10).bind fun y14 =>
  some ((.agg [y12, y13, y14]), H) := (callV_eq vb _ _ _ rfl).trans (by kernel_rfl)

/-! slices.Clone[[]string,string] : kind 2, moves [] -/
theorem slices_Clone___string_string__eq (a0 : V) (H : VH) : cv id_slices_Clone___string_string_ [a0] H =
  (vNilEqV .eql (strip a0)).bind fun x4_2 =>
  ifVV x4_2 (
  some ((.sl true []), H)) (
  (appV false 1 16 [] a0).bind fun x7_6 =>
  some (x7_6, H)) := (callV_eq vb _ _ _ rfl).trans (by kernel_rfl)

/-! loop.example/mailwire/impl.copyMails : kind 2, moves [] -/
noncomputable def impl_copyMails_l3 : List V → VH → Option (Option Nat × List V × VH) := roundV (vb.ctx cv lpW') (vb.b.ann 37) (vb.takes 37) ⟨⟨[3, 7, 8, 9], [], []⟩, [(.exit 0, ⟨[3], [], []⟩)]⟩ (loopIn Tryz.f37 3)
theorem impl_copyMails_l3_eq (v0 v1 v2 v3 : V) (H : VH) : impl_copyMails_l3 [v0, v1, v2, v3] H =
  (vBinV (.int .i64) .lss v3 v2).bind fun x10_6 =>
  ifVV x10_6 (
  (vIdxV 3 v1 v3).bind fun x11_7 =>
  (ldO globB false true 3 x11_7 H).bind fun r9 =>
  (aggNV 3 r9.1).bind fun c12 =>
  (pc id_impl_copyMail [(frz r9.2 (.agg [(strip (c12.getD 0 .nilp)), (strip (c12.getD 1 .nilp)), (strip (c12.getD 2 .nilp))]))]).bind fun x15_15 =>
  (aggNV 3 x15_15).bind fun c17 =>
  (ownV v0).bind fun s19 =>
  (appV false 3 64 s19 (.sl true [[(c17.getD 0 .nilp), (c17.getD 1 .nilp), (c17.getD 2 .nilp)]])).bind fun x17_18 =>
  (vBinV (.int .i64) .add v3 (.int .i64 1)).bind fun x18_21 =>
  some (none, [x17_18, v1, v2, x18_21], r9.2)) (
  some (some 0, [v0], H)) := by kernel_rfl
theorem impl_copyMails_eq (a0 : V) (H : VH) : cv id_impl_copyMails [a0] H =
  (vLenVV (strip a0)).bind fun x8_4 =>
  (lpW' impl_copyMails_l3 [(.sl true []), (strip a0), x8_4, (.int .i64 0)] H).bind fun r23 =>
  inN r23.1 [
  gotV 1 r23.2.1 fun v24 =>
  some ((v24 0), r23.2.2)] := (callV_eq vb _ _ _ rfl).trans (by kernel_rfl)

/-! (*loop.example/mailwire/impl.Session).say : kind 0, moves [] -/
theorem impl_Session_say_eq (a0 a1 : V) (H : VH) : cv id_impl_Session_say [a0, a1] H =
  (id (
  (vNilV a0).bind fun x8_3 =>
  (vOffV x8_3 0).bind fun x9_4 =>
  (ldO globB false false 1 x9_4 H).bind fun r6 =>
  (vBinV (.int .i64) .eql r6.1 (.int .i64 5)).bind fun x11_7 =>
  ifGV x11_7 (
  some (0, [(.int .i64 0), (.bool false)], r6.2)) (
  (qc id_impl_TextValid [(frz r6.2 a1)]).bind fun x14_14 =>
  (vUnV .not x14_14).bind fun x15_15 =>
  ifVV x15_15 (
  some (0, [(.int .i64 0), (.bool false)], r6.2)) (
  (vNilV (strip a0)).bind fun x19_21 =>
  (vOffV x19_21 0).bind fun x20_22 =>
  (ldO globB false false 1 x20_22 r6.2).bind fun r24 =>
  (vBinV (.int .i64) .eql r24.1 (.int .i64 4)).bind fun x22_25 =>
  ifVV x22_25 (
  (cv id_impl_Session_sayData [(strip (strip (strip a0))), (strip (strip a1))] r24.2).bind fun r30 =>
  some (0, [r30.1, (.bool true)], r30.2)) (
  some (1, [(strip (strip a0)), (strip a1)], r24.2)))) : Option (Nat × List V × VH))).bind fun r33 =>
  inN r33.1 [
  gotV 2 r33.2.1 fun v34 =>
  some ((.tup [(v34 0), (v34 1)]), r33.2.2),
  gotV 2 r33.2.1 fun v35 =>
  (cv id_impl_Session_sayCommand [(strip (v35 0)), (strip (v35 1))] r33.2.2).bind fun r39 =>
  some ((.tup [r39.1, (.bool true)]), r39.2)] := (callV_eq vb _ _ _ rfl).trans (by kernel_rfl)

/-! (*loop.example/mailwire/impl.Session).sayData : kind 0, moves [] -/
theorem impl_Session_sayData_eq (a0 a1 : V) (H : VH) : cv id_impl_Session_sayData [a0, a1] H =
  (vBinV .str .neq a1 (.str [46])).bind fun x7_2 =>
  ifVV x7_2 (
  (vNilV a0).bind fun x9_4 =>
  (vOffV x9_4 2).bind fun x10_5 =>
  (vOffV x10_5 2).bind fun x11_6 =>
  (ldO globB false false 1 x11_6 H).bind fun r8 =>
  (vLenVV r8.1).bind fun x13_9 =>
  (vBinV (.int .i64) .leq x13_9 (.int .i64 30)).bind fun x14_10 =>
  ifVV x14_10 (
  (vNilV (strip (strip a0))).bind fun x17_13 =>
  (vOffV x17_13 2).bind fun x18_14 =>
  (vOffV x18_14 2).bind fun x19_15 =>
  (ldO globB true false 1 x19_15 r8.2).bind fun r17 =>
  (qc id_strings_TrimPrefix [(frz r17.2 (strip a1)), (frz r17.2 (.str [46]))]).bind fun x22_19 =>
  (vOneV x22_19).bind fun y21 =>
  (ownV r17.1).bind fun s23 =>
  (appV false 1 16 s23 (.sl true [[y21]])).bind fun x24_22 =>
  (vNilV (strip a0)).bind fun x25_24 =>
  (vOffV x25_24 2).bind fun x26_25 =>
  (vOffV x26_25 2).bind fun x27_26 =>
  (vOneV x24_22).bind fun y28 =>
  (stO x27_26 [y28] r17.2).bind fun H29 =>
  some ((.int .i64 0), H29)) (
  some ((.int .i64 0), r8.2))) (
  (vNilV a0).bind fun x29_33 =>
  (vOffV x29_33 2).bind fun x30_34 =>
  (ldO globB true true 3 x30_34 H).bind fun r36 =>
  (aggNV 3 r36.1).bind fun c39 =>
  (vNilV (strip a0)).bind fun x35_43 =>
  (vOffV x35_43 0).bind fun x36_44 =>
  (stO x36_44 [(.int .i64 1)] r36.2).bind fun H46 =>
  (vNilV (strip (strip a0))).bind fun x37_47 =>
  (vOffV x37_47 2).bind fun x38_48 =>
  (stO x38_48 [(.str []), (.sl true []), (.sl true [])] H46).bind fun H50 =>
  (vLenVV (strip (c39.getD 2 .nilp))).bind fun x42_53 =>
  (vBinV (.int .i64) .gtr x42_53 (.int .i64 30)).bind fun x43_54 =>
  ifVV x43_54 (
  some ((.int .i64 552), H50)) (
  (vNilV (strip (strip (strip a0)))).bind fun x46_58 =>
  (vOffV x46_58 5).bind fun x47_59 =>
  (ldO globB false false 1 x47_59 H50).bind fun r61 =>
  (vLenVV r61.1).bind fun x49_62 =>
  (vBinV (.int .i64) .eql x49_62 (.int .i64 5)).bind fun x50_63 =>
  ifVV x50_63 (
  some ((.int .i64 452), r61.2)) (
  (vNilV (strip (strip (strip (strip (strip a0)))))).bind fun x53_68 =>
  (vOffV x53_68 5).bind fun x54_69 =>
  (ldO globB true false 1 x54_69 r61.2).bind fun r71 =>
  (ownV r71.1).bind fun s75 =>
  (appV false 3 64 s75 (.sl true [[(c39.getD 0 .nilp), (c39.getD 1 .nilp), (c39.getD 2 .nilp)]])).bind fun x58_74 =>
  (vNilV (strip (strip (strip (strip a0))))).bind fun x59_76 =>
  (vOffV x59_76 5).bind fun x60_77 =>
  (vOneV x58_74).bind fun y79 =>
  (stO x60_77 [y79] r71.2).bind fun H80 =>
  some ((.int .i64 250), H80)))) := (callV_eq vb _ _ _ rfl).trans (by kernel_rfl)

/-! strings.TrimPrefix : kind 1, moves [] -/
theorem strings_TrimPrefix_eq (a0 a1 : V) (H : VH) : cv id_strings_TrimPrefix [a0, a1] H =
  (qc id_internal_stringslite_TrimPrefix [(frz H a0), (frz H a1)]).bind fun x7_3 =>
  some (x7_3, H) := (callV_eq vb _ _ _ rfl).trans (by kernel_rfl)

/-! internal/stringslite.TrimPrefix : kind 1, moves [] -/
theorem internal_stringslite_TrimPrefix_eq (a0 a1 : V) (H : VH) : cv id_internal_stringslite_TrimPrefix [a0, a1] H =
  (qc id_internal_stringslite_HasPrefix [(frz H a0), (frz H a1)]).bind fun x7_3 =>
  ifVV x7_3 (
  (vLenSV (strip a1)).bind fun x10_6 =>
  (vSliceSV (strip a0) (some x10_6) none).bind fun x11_7 =>
  some (x11_7, H)) (
  some ((strip a0), H)) := (callV_eq vb _ _ _ rfl).trans (by kernel_rfl)

/-! internal/stringslite.HasPrefix : kind 1, moves [] -/
theorem internal_stringslite_HasPrefix_eq (a0 a1 : V) (H : VH) : cv id_internal_stringslite_HasPrefix [a0, a1] H =
  (vLenSV a0).bind fun x6_2 =>
  (vLenSV a1).bind fun x8_4 =>
  (vBinV (.int .i64) .geq x6_2 x8_4).bind fun x9_5 =>
  ifGV x9_5 (
  (vLenSV (strip a1)).bind fun x13_9 =>
  (vSliceSV (strip a0) none (some x13_9)).bind fun x14_10 =>
  (vBinV .str .eql x14_10 (strip (strip a1))).bind fun x16_12 =>
  some (x16_12, H)) (
  some ((.bool false), H)) := (callV_eq vb _ _ _ rfl).trans (by kernel_rfl)

/-! (*loop.example/mailwire/impl.Session).sayCommand : kind 0, moves [] -/
theorem impl_Session_sayCommand_eq (a0 a1 : V) (H : VH) : cv id_impl_Session_sayCommand [a0, a1] H =
  (id (
  (qc id_impl_outside [(frz H (strip a1)), (frz H (.int .u8 32))]).bind fun x16_6 =>
  (vBinV (.int .i64) .geq x16_6 (.int .i64 0)).bind fun x18_9 =>
  ifVV x18_9 (
  (vSliceSV (strip (strip a1)) none (some (strip x16_6))).bind fun x21_12 =>
  (vBinV (.int .i64) .add (strip (strip x16_6)) (.int .i64 1)).bind fun x24_15 =>
  (vSliceSV (strip (strip (strip a1))) (some x24_15) none).bind fun x25_16 =>
  some (0, [a0, x21_12, x25_16, (.bool true)], H)) (
  some (0, [a0, a1, (.str []), (.bool false)], H)) : Option (Nat × List V × VH))).bind fun r20 =>
  inN r20.1 [
  gotV 4 r20.2.1 fun v21 =>
  (qc id_impl_LowerText [(frz r20.2.2 (v21 1))]).bind fun x27_23 =>
  (vBinV .str .eql x27_23 (.str [104, 101, 108, 111])).bind fun x30_26 =>
  ifVV x30_26 (
  (qc id_impl_LowerText [(frz r20.2.2 (v21 2))]).bind fun x32_29 =>
  (id (
  (vUnV .not (v21 3)).bind fun x34_32 =>
  ifGV x34_32 (
  some (0, [(.int .i64 501)], r20.2.2)) (
  (qc id_impl_isDomain [(frz r20.2.2 x32_29)]).bind fun x37_37 =>
  (vUnV .not x37_37).bind fun x38_38 =>
  ifVV x38_38 (
  some (0, [(.int .i64 501)], r20.2.2)) (
  some (1, [(v21 0), (strip x32_29)], r20.2.2))) : Option (Nat × List V × VH))).bind fun r41 =>
  inN r41.1 [
  gotV 1 r41.2.1 fun v42 =>
  some ((v42 0), r41.2.2),
  gotV 2 r41.2.1 fun v43 =>
  (vNilV (v43 0)).bind fun x45_49 =>
  (vOffV x45_49 1).bind fun x46_50 =>
  (vOneV (v43 1)).bind fun y52 =>
  (stO x46_50 [y52] r41.2.2).bind fun H53 =>
  (vNilV (strip (v43 0))).bind fun x47_54 =>
  (vOffV x47_54 0).bind fun x48_55 =>
  (stO x48_55 [(.int .i64 1)] H53).bind fun H57 =>
  (vNilV (strip (strip (v43 0)))).bind fun x49_58 =>
  (vOffV x49_58 2).bind fun x50_59 =>
  (stO x50_59 [(.str []), (.sl true []), (.sl true [])] H57).bind fun H61 =>
  some ((.int .i64 250), H61)]) (
  (vBinV .str .eql (strip x27_23) (.str [109, 97, 105, 108])).bind fun x53_64 =>
  ifVV x53_64 (
  (qc id_impl_pathIn [(frz r20.2.2 (v21 2)), (frz r20.2.2 (.str [70, 82, 79, 77, 58]))]).bind fun x56_67 =>
  (vExtV x56_67 0).bind fun x57_69 =>
  (vExtV x56_67 1).bind fun x58_70 =>
  (vUnV .not (strip x58_70)).bind fun x61_74 =>
  ifVV x61_74 (
  some ((.int .i64 501), r20.2.2)) (
  (vNilV (v21 0)).bind fun x64_78 =>
  (vOffV x64_78 0).bind fun x65_79 =>
  (ldO globB false false 1 x65_79 r20.2.2).bind fun r81 =>
  (vBinV (.int .i64) .neq r81.1 (.int .i64 1)).bind fun x67_82 =>
  ifVV x67_82 (
  some ((.int .i64 503), r81.2)) (
  (vOneV (strip x57_69)).bind fun y89 =>
  (vNilV (strip (v21 0))).bind fun x72_90 =>
  (vOffV x72_90 0).bind fun x73_91 =>
  (stO x73_91 [(.int .i64 2)] r81.2).bind fun H93 =>
  (vNilV (strip (strip (v21 0)))).bind fun x74_94 =>
  (vOffV x74_94 2).bind fun x75_95 =>
  (stO x75_95 [y89, (.sl true []), (.sl true [])] H93).bind fun H97 =>
  some ((.int .i64 250), H97)))) (
  (vBinV .str .eql (strip (strip x27_23)) (.str [114, 99, 112, 116])).bind fun x78_100 =>
  ifVV x78_100 (
  (qc id_impl_pathIn [(frz r20.2.2 (v21 2)), (frz r20.2.2 (.str [84, 79, 58]))]).bind fun x81_103 =>
  (vExtV x81_103 0).bind fun x82_105 =>
  (vExtV x81_103 1).bind fun x83_106 =>
  (id (
  (vUnV .not (strip x83_106)).bind fun x86_110 =>
  ifGV x86_110 (
  some (0, [(.int .i64 501)], r20.2.2)) (
  (vBinV .str .eql (strip x82_105) (.str [])).bind fun x89_116 =>
  ifVV x89_116 (
  some (0, [(.int .i64 501)], r20.2.2)) (
  (vNilV (v21 0)).bind fun x93_121 =>
  (vOffV x93_121 0).bind fun x94_122 =>
  (ldO globB false false 1 x94_122 r20.2.2).bind fun r124 =>
  (vBinV (.int .i64) .neq r124.1 (.int .i64 2)).bind fun x96_125 =>
  ifGV x96_125 (
  (vNilV (strip (v21 0))).bind fun x99_128 =>
  (vOffV x99_128 0).bind fun x100_129 =>
  (ldO globB false false 1 x100_129 r124.2).bind fun r131 =>
  (vBinV (.int .i64) .neq r131.1 (.int .i64 3)).bind fun x102_132 =>
  ifVV x102_132 (
  some (0, [(.int .i64 503)], r131.2)) (
  (vNilV (strip (strip (v21 0)))).bind fun x106_137 =>
  (vOffV x106_137 2).bind fun x107_138 =>
  (vOffV x107_138 1).bind fun x108_139 =>
  (ldO globB false false 1 x108_139 r131.2).bind fun r141 =>
  (vLenVV r141.1).bind fun x110_142 =>
  (vBinV (.int .i64) .eql x110_142 (.int .i64 10)).bind fun x111_143 =>
  ifVV x111_143 (
  some (0, [(.int .i64 452)], r141.2)) (
  some (1, [(strip (strip (strip (v21 0)))), (strip (strip x82_105))], r141.2)))) (
  (vNilV (strip (v21 0))).bind fun x106_149 =>
  (vOffV x106_149 2).bind fun x107_150 =>
  (vOffV x107_150 1).bind fun x108_151 =>
  (ldO globB false false 1 x108_151 r124.2).bind fun r153 =>
  (vLenVV r153.1).bind fun x110_154 =>
  (vBinV (.int .i64) .eql x110_154 (.int .i64 10)).bind fun x111_155 =>
  ifVV x111_155 (
  some (0, [(.int .i64 452)], r153.2)) (
  some (1, [(strip (strip (v21 0))), (strip (strip x82_105))], r153.2))))) : Option (Nat × List V × VH))).bind fun r158 =>
  inN r158.1 [
  gotV 1 r158.2.1 fun v159 =>
  some ((v159 0), r158.2.2),
  gotV 2 r158.2.1 fun v160 =>
  (vNilV (strip (strip (v160 0)))).bind fun x115_164 =>
  (vOffV x115_164 2).bind fun x116_165 =>
  (vOffV x116_165 1).bind fun x117_166 =>
  (ldO globB true false 1 x117_166 r158.2.2).bind fun r168 =>
  (vOneV (v160 1)).bind fun y171 =>
  (ownV r168.1).bind fun s173 =>
  (appV false 1 16 s173 (.sl true [[y171]])).bind fun x121_172 =>
  (vNilV (v160 0)).bind fun x122_174 =>
  (vOffV x122_174 0).bind fun x123_175 =>
  (stO x123_175 [(.int .i64 3)] r168.2).bind fun H177 =>
  (vNilV (strip (v160 0))).bind fun x124_178 =>
  (vOffV x124_178 2).bind fun x125_179 =>
  (vOffV x125_179 1).bind fun x126_180 =>
  (vOneV x121_172).bind fun y182 =>
  (stO x126_180 [y182] H177).bind fun H183 =>
  some ((.int .i64 250), H183)]) (
  ifVV (v21 3) (
  some ((.int .i64 500), r20.2.2)) (
  (vBinV .str .eql (strip (strip (strip x27_23))) (.str [100, 97, 116, 97])).bind fun x131_189 =>
  ifVV x131_189 (
  (vNilV (v21 0)).bind fun x133_192 =>
  (vOffV x133_192 0).bind fun x134_193 =>
  (ldO globB false false 1 x134_193 r20.2.2).bind fun r195 =>
  (vBinV (.int .i64) .neq r195.1 (.int .i64 3)).bind fun x136_196 =>
  ifVV x136_196 (
  some ((.int .i64 503), r195.2)) (
  (vNilV (strip (v21 0))).bind fun x138_199 =>
  (vOffV x138_199 0).bind fun x139_200 =>
  (stO x139_200 [(.int .i64 4)] r195.2).bind fun H202 =>
  some ((.int .i64 354), H202))) (
  (vBinV .str .eql (strip (strip (strip (strip x27_23)))) (.str [114, 115, 101, 116])).bind fun x142_205 =>
  ifVV x142_205 (
  (vNilV (v21 0)).bind fun x145_209 =>
  (vOffV x145_209 2).bind fun x146_210 =>
  (stO x146_210 [(.str []), (.sl true []), (.sl true [])] r20.2.2).bind fun H212 =>
  (vNilV (strip (v21 0))).bind fun x148_214 =>
  (vOffV x148_214 0).bind fun x149_215 =>
  (ldO globB false false 1 x149_215 H212).bind fun r217 =>
  (vBinV (.int .i64) .neq r217.1 (.int .i64 0)).bind fun x151_218 =>
  ifVV x151_218 (
  (vNilV (strip (strip (v21 0)))).bind fun x153_220 =>
  (vOffV x153_220 0).bind fun x154_221 =>
  (stO x154_221 [(.int .i64 1)] r217.2).bind fun H223 =>
  some ((.int .i64 250), H223)) (
  some ((.int .i64 250), r217.2))) (
  (vBinV .str .eql (strip (strip (strip (strip (strip x27_23))))) (.str [110, 111, 111, 112])).bind fun x157_227 =>
  ifVV x157_227 (
  some ((.int .i64 250), r20.2.2)) (
  (vBinV .str .eql (strip (strip (strip (strip (strip (strip x27_23)))))) (.str [113, 117, 105, 116])).bind fun x160_231 =>
  ifVV x160_231 (
  (vNilV (v21 0)).bind fun x164_236 =>
  (vOffV x164_236 0).bind fun x165_237 =>
  (stO x165_237 [(.int .i64 5)] r20.2.2).bind fun H239 =>
  (vNilV (strip (v21 0))).bind fun x166_240 =>
  (vOffV x166_240 2).bind fun x167_241 =>
  (stO x167_241 [(.str []), (.sl true []), (.sl true [])] H239).bind fun H243 =>
  some ((.int .i64 221), H243)) (
  some ((.int .i64 500), r20.2.2)))))))))] := (callV_eq vb _ _ _ rfl).trans (by kernel_rfl)

/-! loop.example/mailwire/impl.outside : kind 1, moves [] -/
noncomputable def impl_outside_l2 : List V → VH → Option (Option Nat × List V × VH) := roundV (vb.ctx cv lpW') (vb.b.ann 61) (vb.takes 61) ⟨⟨[0, 1, 5], [], []⟩, [(.exit 0, ⟨[], [], []⟩), (.ret, ⟨[4], [], []⟩)]⟩ (loopIn Tryz.f61 2)
theorem impl_outside_l2_eq (v0 v1 v2 : V) (H : VH) : impl_outside_l2 [v0, v1, v2] H =
  (vLenSV v0).bind fun x11_4 =>
  (vBinV (.int .i64) .lss v2 x11_4).bind fun x12_5 =>
  ifVV x12_5 (
  (id (
  (vIndexSV (strip v0) (strip v2)).bind fun x17_8 =>
  (vBinV (.int .u8) .eql x17_8 (.int .u8 34)).bind fun x19_9 =>
  ifVV x19_9 (
  (vSliceSV (strip (strip v0)) (some (strip (strip v2))) none).bind fun x23_13 =>
  (qc id_impl_quoted [(frz H x23_13)]).bind fun x24_14 =>
  (vExtV x24_14 0).bind fun x25_16 =>
  (vExtV x24_14 1).bind fun x26_17 =>
  (vExtV x24_14 2).bind fun x27_18 =>
  (vUnV .not (strip x27_18)).bind fun x29_23 =>
  ifVV x29_23 (
  some (0, [(.int .i64 (-1))], H)) (
  (vBinV (.int .i64) .sub (strip x26_17) (.int .i64 1)).bind fun x32_27 =>
  (vBinV (.int .i64) .add (strip (strip (strip v2))) x32_27).bind fun x33_28 =>
  some (1, [(strip (strip (strip v0))), v1, x33_28], H))) (
  (vBinV (.int .u8) .eql x17_8 v1).bind fun x36_31 =>
  ifVV x36_31 (
  some (0, [(strip (strip v2))], H)) (
  some (1, [(strip (strip v0)), (strip v1), (strip (strip v2))], H))) : Option (Nat × List V × VH))).bind fun r35 =>
  inN r35.1 [
  gotV 1 r35.2.1 fun v36 =>
  some (some 1, [(v36 0)], r35.2.2),
  gotV 3 r35.2.1 fun v37 =>
  (vBinV (.int .i64) .add (v37 2) (.int .i64 1)).bind fun x14_39 =>
  some (none, [(v37 0), (v37 1), x14_39], r35.2.2)]) (
  some (some 0, [], H)) := by kernel_rfl
theorem impl_outside_eq (a0 a1 : V) (H : VH) : cv id_impl_outside [a0, a1] H =
  (lpW' impl_outside_l2 [a0, a1, (.int .i64 0)] H).bind fun r41 =>
  inN r41.1 [
  gotV 0 r41.2.1 fun v42 =>
  some ((.int .i64 (-1)), r41.2.2),
  gotV 1 r41.2.1 fun v44 =>
  some ((v44 0), r41.2.2)] := (callV_eq vb _ _ _ rfl).trans (by kernel_rfl)

/-! loop.example/mailwire/impl.quoted : kind 1, moves [] -/
noncomputable def impl_quoted_l3 : List V → VH → Option (Option Nat × List V × VH) := roundV (vb.ctx cv lpW') (vb.b.ann 82) (vb.takes 82) ⟨⟨[0, 5, 6], [], []⟩, [(.exit 0, ⟨[], [], []⟩), (.ret, ⟨[2, 3, 4], [], []⟩)]⟩ (loopIn Tryz.f82 3)
theorem impl_quoted_l3_eq (v0 v1 v2 : V) (H : VH) : impl_quoted_l3 [v0, v1, v2] H =
  (vLenSV v0).bind fun x10_8 =>
  (vBinV (.int .i64) .lss v2 x10_8).bind fun x11_9 =>
  ifVV x11_9 (
  (id (
  (id (
  (vIndexSV (strip v0) (strip v2)).bind fun x17_12 =>
  (vBinV (.int .u8) .eql x17_12 (.int .u8 34)).bind fun x18_13 =>
  ifVV x18_13 (
  (b2sV (strip v1) H).bind fun x20_16 =>
  (vBinV (.int .i64) .add (strip (strip v2)) (.int .i64 1)).bind fun x22_18 =>
  some (0, [x20_16, x22_18, (.bool true)], H)) (
  (vIndexSV (strip (strip v0)) (strip (strip v2))).bind fun x26_24 =>
  (vBinV (.int .u8) .eql x26_24 (.int .u8 92)).bind fun x27_25 =>
  ifVV x27_25 (
  (vBinV (.int .i64) .add (strip (strip (strip v2))) (.int .i64 1)).bind fun x29_28 =>
  (vLenSV (strip (strip (strip v0)))).bind fun x32_32 =>
  (vBinV (.int .i64) .eql x29_28 x32_32).bind fun x33_33 =>
  ifVV x33_33 (
  some (0, [(.str []), (.int .i64 0), (.bool false)], H)) (
  some (1, [(strip (strip (strip (strip v0)))), v1, (strip x29_28)], H))) (
  some (1, [(strip (strip (strip v0))), v1, (strip (strip (strip v2)))], H))) : Option (Nat × List V × VH))).bind fun r37 =>
  inN r37.1 [
  gotV 3 r37.2.1 fun v38 =>
  some (0, [(v38 0), (v38 1), (v38 2)], r37.2.2),
  gotV 3 r37.2.1 fun v39 =>
  (vIndexSV (v39 0) (v39 2)).bind fun x37_43 =>
  (vOneV x37_43).bind fun y45 =>
  (ownV (v39 1)).bind fun s47 =>
  (appV false 1 1 s47 (.sl true [[y45]])).bind fun x39_46 =>
  some (1, [(strip (v39 0)), x39_46, (strip (v39 2))], r37.2.2)] : Option (Nat × List V × VH))).bind fun r49 =>
  inN r49.1 [
  gotV 3 r49.2.1 fun v50 =>
  some (some 1, [(v50 0), (v50 1), (v50 2)], r49.2.2),
  gotV 3 r49.2.1 fun v51 =>
  (vBinV (.int .i64) .add (v51 2) (.int .i64 1)).bind fun x13_53 =>
  some (none, [(v51 0), (v51 1), x13_53], r49.2.2)]) (
  some (some 0, [], H)) := by kernel_rfl
theorem impl_quoted_eq (a0 : V) (H : VH) : cv id_impl_quoted [a0] H =
  (lpW' impl_quoted_l3 [a0, (.sl true []), (.int .i64 1)] H).bind fun r55 =>
  inN r55.1 [
  gotV 0 r55.2.1 fun v56 =>
  some ((.tup [(.str []), (.int .i64 0), (.bool false)]), r55.2.2),
  gotV 3 r55.2.1 fun v60 =>
  some ((.tup [(v60 0), (v60 1), (v60 2)]), r55.2.2)] := (callV_eq vb _ _ _ rfl).trans (by kernel_rfl)

/-! loop.example/mailwire/impl.LowerText : kind 1, moves [] -/
noncomputable def impl_LowerText_l3 : List V → VH → Option (Option Nat × List V × VH) := roundV (vb.ctx cv lpW') (vb.b.ann 62) (vb.takes 62) ⟨⟨[3, 8, 9, 10], [], []⟩, [(.exit 0, ⟨[3], [], []⟩)]⟩ (loopIn Tryz.f62 3)
theorem impl_LowerText_l3_eq (v0 v1 v2 v3 : V) (H : VH) : impl_LowerText_l3 [v0, v1, v2, v3] H =
  (vBinV (.int .i64) .lss v3 v2).bind fun x11_7 =>
  ifVV x11_7 (
  (vIdxV 1 v1 (strip v3)).bind fun x13_9 =>
  (ldO globB false false 1 x13_9 H).bind fun r11 =>
  (vBinV (.int .u8) .geq r11.1 (.int .u8 65)).bind fun x16_15 =>
  ifGV x16_15 (
  (vBinV (.int .u8) .leq (strip r11.1) (.int .u8 90)).bind fun x19_18 =>
  ifVV x19_18 (
  (vIdxV 1 (strip v0) v3).bind fun x23_22 =>
  (ldO globB false false 1 x23_22 r11.2).bind fun r24 =>
  (vBinV (.int .u8) .add r24.1 (.int .u8 32)).bind fun x25_25 =>
  (vIdxV 1 (strip v0) v3).bind fun x26_26 =>
  (vOneV x25_25).bind fun y28 =>
  (stO x26_26 [y28] r24.2).bind fun H29 =>
  (vBinV (.int .i64) .add (strip v3) (.int .i64 1)).bind fun x27_30 =>
  some (none, [v0, v1, v2, x27_30], H29)) (
  (vBinV (.int .i64) .add (strip v3) (.int .i64 1)).bind fun x27_32 =>
  some (none, [v0, v1, v2, x27_32], r11.2))) (
  (vBinV (.int .i64) .add (strip v3) (.int .i64 1)).bind fun x27_35 =>
  some (none, [v0, v1, v2, x27_35], r11.2))) (
  some (some 0, [v0], H)) := by kernel_rfl
theorem impl_LowerText_eq (a0 : V) (H : VH) : cv id_impl_LowerText [a0] H =
  (s2bV a0).bind fun x7_2 =>
  (vLenVV (.obs H.length 0 x7_2.length 1)).bind fun x9_5 =>
  (lpW' impl_LowerText_l3 [(.obs H.length 0 x7_2.length 1), (.obs H.length 0 x7_2.length 1), x9_5, (.int .i64 0)] (H ++ [x7_2])).bind fun r37 =>
  inN r37.1 [
  gotV 1 r37.2.1 fun v38 =>
  (b2sV (strip (v38 0)) r37.2.2).bind fun x29_40 =>
  some (x29_40, r37.2.2)] := (callV_eq vb _ _ _ rfl).trans (by kernel_rfl)

/-! loop.example/mailwire/impl.pathIn : kind 1, moves [] -/
theorem impl_pathIn_eq (a0 a1 : V) (H : VH) : cv id_impl_pathIn [a0, a1] H =
  (id (
  (vLenSV a0).bind fun x13_3 =>
  (vLenSV a1).bind fun x15_5 =>
  (vBinV (.int .i64) .lss x13_3 x15_5).bind fun x16_6 =>
  ifGV x16_6 (
  some (0, [(.str []), (.bool false)], H)) (
  (vLenSV (strip a1)).bind fun x20_13 =>
  (vSliceSV (strip a0) none (some x20_13)).bind fun x21_14 =>
  (qc id_impl_SameText [(frz H x21_14), (frz H (strip (strip a1)))]).bind fun x23_16 =>
  (vUnV .not x23_16).bind fun x24_17 =>
  ifVV x24_17 (
  some (0, [(.str []), (.bool false)], H)) (
  some (1, [(strip (strip a0)), (strip (strip (strip a1)))], H))) : Option (Nat × List V × VH))).bind fun r21 =>
  inN r21.1 [
  gotV 2 r21.2.1 fun v22 =>
  some ((.tup [(v22 0), (v22 1)]), r21.2.2),
  gotV 2 r21.2.1 fun v23 =>
  (vLenSV (v23 1)).bind fun x29_26 =>
  (vSliceSV (v23 0) (some x29_26) none).bind fun x30_27 =>
  (qc id_strings_CutSuffix [(frz r21.2.2 x30_27), (frz r21.2.2 (.str [62]))]).bind fun x31_28 =>
  (vExtV x31_28 0).bind fun x32_30 =>
  (vExtV x31_28 1).bind fun x33_31 =>
  (qc id_strings_CutPrefix [(frz r21.2.2 (strip x32_30)), (frz r21.2.2 (.str [60]))]).bind fun x36_35 =>
  (vExtV x36_35 0).bind fun x37_37 =>
  (vExtV x36_35 1).bind fun x38_38 =>
  (id (
  (vUnV .not (strip x33_31)).bind fun x40_42 =>
  ifGV x40_42 (
  some (0, [(.str []), (.bool false)], r21.2.2)) (
  (vUnV .not (strip x38_38)).bind fun x43_48 =>
  ifVV x43_48 (
  some (0, [(.str []), (.bool false)], r21.2.2)) (
  some (1, [(strip x37_37)], r21.2.2))) : Option (Nat × List V × VH))).bind fun r52 =>
  inN r52.1 [
  gotV 2 r52.2.1 fun v53 =>
  some ((.tup [(v53 0), (v53 1)]), r52.2.2),
  gotV 1 r52.2.1 fun v54 =>
  (qc id_strings_Cut [(frz r52.2.2 (v54 0)), (frz r52.2.2 (.str [64]))]).bind fun x47_56 =>
  (vExtV x47_56 0).bind fun x48_58 =>
  (vExtV x47_56 1).bind fun x49_59 =>
  (vExtV x47_56 2).bind fun x50_60 =>
  (id (
  ifVV (strip x50_60) (
  (vBinV .str .add (strip x48_58) (.str [64])).bind fun x53_66 =>
  (qc id_impl_LowerText [(frz r52.2.2 (strip x49_59))]).bind fun x55_68 =>
  (vBinV .str .add x53_66 x55_68).bind fun x56_69 =>
  some (0, [x56_69], r52.2.2)) (
  some (0, [(strip (v54 0))], r52.2.2)) : Option (Nat × List V × VH))).bind fun r71 =>
  inN r71.1 [
  gotV 1 r71.2.1 fun v72 =>
  (qc id_impl_isFrom [(frz r71.2.2 (strip (v72 0)))]).bind fun x59_75 =>
  some ((.tup [(v72 0), x59_75]), r71.2.2)]]] := (callV_eq vb _ _ _ rfl).trans (by kernel_rfl)

/-! loop.example/mailwire/impl.SameText : kind 1, moves [] -/
theorem impl_SameText_eq (a0 a1 : V) (H : VH) : cv id_impl_SameText [a0, a1] H =
  (qc id_impl_LowerText [(frz H a0)]).bind fun x6_2 =>
  (qc id_impl_LowerText [(frz H a1)]).bind fun x8_4 =>
  (vBinV .str .eql x6_2 x8_4).bind fun x9_5 =>
  some (x9_5, H) := (callV_eq vb _ _ _ rfl).trans (by kernel_rfl)

/-! strings.CutSuffix : kind 1, moves [] -/
theorem strings_CutSuffix_eq (a0 a1 : V) (H : VH) : cv id_strings_CutSuffix [a0, a1] H =
  (qc id_internal_stringslite_CutSuffix [(frz H a0), (frz H a1)]).bind fun x8_4 =>
  (vExtV x8_4 0).bind fun x9_5 =>
  (vExtV x8_4 1).bind fun x10_6 =>
  some ((.tup [(strip x9_5), (strip x10_6)]), H) := (callV_eq vb _ _ _ rfl).trans (by kernel_rfl)

/-! internal/stringslite.CutSuffix : kind 1, moves [] -/
theorem internal_stringslite_CutSuffix_eq (a0 a1 : V) (H : VH) : cv id_internal_stringslite_CutSuffix [a0, a1] H =
  (qc id_internal_stringslite_HasSuffix [(frz H a0), (frz H a1)]).bind fun x8_4 =>
  (vUnV .not x8_4).bind fun x9_5 =>
  ifVV x9_5 (
  some ((.tup [(strip a0), (.bool false)]), H)) (
  (vLenSV (strip (strip a0))).bind fun x13_11 =>
  (vLenSV (strip a1)).bind fun x15_13 =>
  (vBinV (.int .i64) .sub x13_11 x15_13).bind fun x16_14 =>
  (vSliceSV (strip a0) none (some x16_14)).bind fun x17_15 =>
  some ((.tup [x17_15, (.bool true)]), H)) := (callV_eq vb _ _ _ rfl).trans (by kernel_rfl)

/-! internal/stringslite.HasSuffix : kind 1, moves [] -/
theorem internal_stringslite_HasSuffix_eq (a0 a1 : V) (H : VH) : cv id_internal_stringslite_HasSuffix [a0, a1] H =
  (vLenSV a0).bind fun x6_2 =>
  (vLenSV a1).bind fun x8_4 =>
  (vBinV (.int .i64) .geq x6_2 x8_4).bind fun x9_5 =>
  ifGV x9_5 (
  (vLenSV (strip (strip a0))).bind fun x13_9 =>
  (vLenSV (strip a1)).bind fun x15_11 =>
  (vBinV (.int .i64) .sub x13_9 x15_11).bind fun x16_12 =>
  (vSliceSV (strip a0) (some x16_12) none).bind fun x17_13 =>
  (vBinV .str .eql x17_13 (strip (strip a1))).bind fun x19_15 =>
  some (x19_15, H)) (
  some ((.bool false), H)) := (callV_eq vb _ _ _ rfl).trans (by kernel_rfl)

/-! strings.CutPrefix : kind 1, moves [] -/
theorem strings_CutPrefix_eq (a0 a1 : V) (H : VH) : cv id_strings_CutPrefix [a0, a1] H =
  (qc id_internal_stringslite_CutPrefix [(frz H a0), (frz H a1)]).bind fun x8_4 =>
  (vExtV x8_4 0).bind fun x9_5 =>
  (vExtV x8_4 1).bind fun x10_6 =>
  some ((.tup [(strip x9_5), (strip x10_6)]), H) := (callV_eq vb _ _ _ rfl).trans (by kernel_rfl)

/-! internal/stringslite.CutPrefix : kind 1, moves [] -/
theorem internal_stringslite_CutPrefix_eq (a0 a1 : V) (H : VH) : cv id_internal_stringslite_CutPrefix [a0, a1] H =
  (qc id_internal_stringslite_HasPrefix [(frz H a0), (frz H a1)]).bind fun x8_4 =>
  (vUnV .not x8_4).bind fun x9_5 =>
  ifVV x9_5 (
  some ((.tup [(strip a0), (.bool false)]), H)) (
  (vLenSV (strip a1)).bind fun x13_11 =>
  (vSliceSV (strip a0) (some x13_11) none).bind fun x14_12 =>
  some ((.tup [x14_12, (.bool true)]), H)) := (callV_eq vb _ _ _ rfl).trans (by kernel_rfl)

/-! loop.example/mailwire/spec.SayAll : kind 0, moves [0] -/
theorem spec_SayAll_eq (a0 a1 : V) (H : VH) : cv id_spec_SayAll [a0, a1] H =
  (aggNV 6 a0).bind fun c1 =>
  (cv id_spec_l10RawSayAll [(.agg [(c1.getD 0 .nilp), (c1.getD 1 .nilp), (c1.getD 2 .nilp), (c1.getD 3 .nilp), (c1.getD 4 .nilp), (c1.getD 5 .nilp)]), (strip (strip a1))] H).bind fun r8 =>
  (vExtV r8.1 0).bind fun x14_10 =>
  (vExtV r8.1 1).bind fun x15_11 =>
  (vExtV (stripAt 1 r8.1) 2).bind fun x16_12 =>
  (aggNV 6 (strip x14_10)).bind fun c15 =>
  (pc id_spec_l13OwnSession [(frz r8.2 (.agg [(strip (c15.getD 0 .nilp)), (strip (c15.getD 1 .nilp)), (strip (c15.getD 2 .nilp)), (strip (c15.getD 3 .nilp)), (strip (c15.getD 4 .nilp)), (strip (c15.getD 5 .nilp))]))]).bind fun x18_19 =>
  (appV false 1 8 [] x15_11).bind fun x21_22 =>
  (aggNV 6 x18_19).bind fun c25 =>
  some ((.tup [(.agg [(c25.getD 0 .nilp), (c25.getD 1 .nilp), (c25.getD 2 .nilp), (c25.getD 3 .nilp), (c25.getD 4 .nilp), (c25.getD 5 .nilp)]), x21_22, (strip x16_12)]), r8.2) := (callV_eq vb _ _ _ rfl).trans (by kernel_rfl)

/-! loop.example/mailwire/spec.l10RawSayAll : kind 0, moves [0] -/
noncomputable def spec_l10RawSayAll_l6 : List V → VH → Option (Option Nat × List V × VH) := roundV (vb.ctx cv lpW') (vb.b.ann 31) (vb.takes 31) ⟨⟨[1, 7, 9], [(4, (4, 0)), (8, (8, 0))], [(4, 6), (8, 6)]⟩, [(.exit 0, ⟨[7], [(4, (4, 0)), (8, (8, 0))], [(4, 6), (8, 6)]⟩), (.ret, ⟨[5, 6], [(4, (4, 0))], [(4, 6)]⟩)]⟩ (loopIn Tryz.f31 6)
theorem spec_l10RawSayAll_l6_eq (v0 v1 v2 v3 v4 v5 v6 v7 v8 v9 v10 v11 v12 v13 v14 : V) (H : VH) : spec_l10RawSayAll_l6 [v0, v1, v2, v3, v4, v5, v6, v7, v8, v9, v10, v11, v12, v13, v14] H =
  (vLenVV (strip v0)).bind fun x23_24 =>
  (vBinV (.int .i64) .lss v2 x23_24).bind fun x24_25 =>
  ifVV x24_25 (
  (id (
  (vIdxV 1 (strip v0) (strip v2)).bind fun x31_29 =>
  (ldO globB false false 1 x31_29 H).bind fun r31 =>
  (cv id_spec_SayLine [(.agg [v9, v10, v11, v12, v13, v14]), (strip r31.1)] r31.2).bind fun r33 =>
  (vExtV r33.1 0).bind fun x34_35 =>
  (vExtV (stripAt 0 r33.1) 1).bind fun x35_36 =>
  (vExtV (stripAt 0 r33.1) 2).bind fun x36_37 =>
  (aggNV 6 x34_35).bind fun c40 =>
  (vUnV .not (strip x36_37)).bind fun x38_44 =>
  ifVV x38_44 (
  some (0, [(.sl true []), (.bool false), (.int .i64 0), (.str []), (.str []), (.sl true []), (.sl true []), (.sl true [])], r33.2)) (
  (vBinV (.int .i64) .neq (strip x35_36) (.int .i64 0)).bind fun x42_51 =>
  ifVV x42_51 (
  (vOneV (strip (strip x35_36))).bind fun y55 =>
  (ownV v1).bind fun s57 =>
  (appV false 1 8 s57 (.sl true [[y55]])).bind fun x46_56 =>
  some (1, [v0, x46_56, (strip (strip v2)), v3, v4, v5, v6, v7, v8, (c40.getD 0 .nilp), (c40.getD 1 .nilp), (c40.getD 2 .nilp), (c40.getD 3 .nilp), (c40.getD 4 .nilp), (c40.getD 5 .nilp)], r33.2)) (
  some (1, [v0, v1, (strip (strip v2)), v3, v4, v5, v6, v7, v8, (c40.getD 0 .nilp), (c40.getD 1 .nilp), (c40.getD 2 .nilp), (c40.getD 3 .nilp), (c40.getD 4 .nilp), (c40.getD 5 .nilp)], r33.2))) : Option (Nat × List V × VH))).bind fun r63 =>
  inN r63.1 [
  gotV 8 r63.2.1 fun v64 =>
  some (some 1, [(v64 0), (v64 1), (v64 2), (v64 3), (v64 4), (v64 5), (v64 6), (v64 7)], r63.2.2),
  gotV 15 r63.2.1 fun v65 =>
  (vBinV (.int .i64) .add (v65 2) (.int .i64 1)).bind fun x26_67 =>
  some (none, [(v65 0), (v65 1), x26_67, (v65 3), (v65 4), (v65 5), (v65 6), (v65 7), (v65 8), (v65 9), (v65 10), (v65 11), (v65 12), (v65 13), (v65 14)], r63.2.2)]) (
  some (some 0, [v1, v3, v4, v5, v6, v7, v8, v9, v10, v11, v12, v13, v14], H)) := by kernel_rfl
theorem spec_l10RawSayAll_eq (a0 a1 : V) (H : VH) : cv id_spec_l10RawSayAll [a0, a1] H =
  (aggNV 6 a0).bind fun c1 =>
  (qc id_spec_SessionValid [(frz H (.agg [(strip (c1.getD 0 .nilp)), (strip (c1.getD 1 .nilp)), (strip (c1.getD 2 .nilp)), (strip (c1.getD 3 .nilp)), (strip (c1.getD 4 .nilp)), (strip (c1.getD 5 .nilp))]))]).bind fun x15_8 =>
  (vUnV .not x15_8).bind fun x16_9 =>
  ifVV x16_9 (
  some ((.tup [(.agg [(.int .i64 0), (.str []), (.str []), (.sl true []), (.sl true []), (.sl true [])]), (.sl true []), (.bool false)]), H)) (
  (cv id_spec_l10Copy [(.agg [(c1.getD 0 .nilp), (c1.getD 1 .nilp), (c1.getD 2 .nilp), (c1.getD 3 .nilp), (c1.getD 4 .nilp), (c1.getD 5 .nilp)])] H).bind fun r17 =>
  (aggNV 6 r17.1).bind fun c20 =>
  (lpW' spec_l10RawSayAll_l6 [a1, (.sl true []), (.int .i64 0), (.int .i64 0), (.str []), (.str []), (.sl true []), (.sl true []), (.sl true []), (c20.getD 0 .nilp), (c20.getD 1 .nilp), (c20.getD 2 .nilp), (c20.getD 3 .nilp), (c20.getD 4 .nilp), (c20.getD 5 .nilp)] r17.2).bind fun r69 =>
  inN r69.1 [
  gotV 13 r69.2.1 fun v70 =>
  some ((.tup [(.agg [(v70 7), (v70 8), (v70 9), (v70 10), (v70 11), (v70 12)]), (v70 0), (.bool true)]), r69.2.2),
  gotV 8 r69.2.1 fun v76 =>
  some ((.tup [(.agg [(v76 2), (v76 3), (v76 4), (v76 5), (v76 6), (v76 7)]), (v76 0), (v76 1)]), r69.2.2)]) := (callV_eq vb _ _ _ rfl).trans (by kernel_rfl)

/-! loop.example/mailwire/impl.SessionSame : kind 1, moves [] -/
theorem impl_SessionSame_eq (a0 a1 : V) (H : VH) : cv id_impl_SessionSame [a0, a1] H =
  (aggNV 6 a0).bind fun c1 =>
  (aggNV 6 a1).bind fun c3 =>
  (vBinV (.int .i64) .eql (strip (c1.getD 0 .nilp)) (strip (c3.getD 0 .nilp))).bind fun x9_9 =>
  ifGV x9_9 (
  (vBinV .str .eql (strip (c1.getD 1 .nilp)) (strip (c3.getD 1 .nilp))).bind fun x15_15 =>
  ifGV x15_15 (
  (qc id_impl_MailSame [(frz H (.agg [(strip (c1.getD 2 .nilp)), (strip (c1.getD 3 .nilp)), (strip (c1.getD 4 .nilp))])), (frz H (.agg [(strip (c3.getD 2 .nilp)), (strip (c3.getD 3 .nilp)), (strip (c3.getD 4 .nilp))]))]).bind fun x22_22 =>
  ifGV x22_22 (
  (qc id_slices_EqualFunc___impl_Mail___impl_Mail_impl_Mail_impl_Mail_ [(frz H (strip (c1.getD 5 .nilp))), (frz H (strip (c3.getD 5 .nilp))), (frz H (.fn id_impl_MailSame []))]).bind fun x29_29 =>
  some (x29_29, H)) (
  some ((.bool false), H))) (
  some ((.bool false), H))) (
  some ((.bool false), H)) := (callV_eq vb _ _ _ rfl).trans (by kernel_rfl)

/-! loop.example/mailwire/impl.MailSame : kind 1, moves [] -/
theorem impl_MailSame_eq (a0 a1 : V) (H : VH) : cv id_impl_MailSame [a0, a1] H =
  (aggNV 3 a0).bind fun c1 =>
  (aggNV 3 a1).bind fun c3 =>
  (vBinV .str .eql (strip (c1.getD 0 .nilp)) (strip (c3.getD 0 .nilp))).bind fun x9_9 =>
  ifGV x9_9 (
  (qc id_slices_Equal___string_string_ [(frz H (strip (c1.getD 1 .nilp))), (frz H (strip (c3.getD 1 .nilp)))]).bind fun x15_15 =>
  ifGV x15_15 (
  (qc id_slices_Equal___string_string_ [(frz H (strip (c1.getD 2 .nilp))), (frz H (strip (c3.getD 2 .nilp)))]).bind fun x22_22 =>
  some (x22_22, H)) (
  some ((.bool false), H))) (
  some ((.bool false), H)) := (callV_eq vb _ _ _ rfl).trans (by kernel_rfl)

/-! slices.Equal[[]string,string] : kind 1, moves [] -/
noncomputable def slices_Equal___string_string__l4 : List V → VH → Option (Option Nat × List V × VH) := roundV (vb.ctx cv lpW') (vb.b.ann 32) (vb.takes 32) ⟨⟨[0, 1, 12, 13], [], []⟩, [(.exit 0, ⟨[], [], []⟩), (.ret, ⟨[4], [], []⟩)]⟩ (loopIn Tryz.f32 4)
theorem slices_Equal___string_string__l4_eq (v0 v1 v2 v3 : V) (H : VH) : slices_Equal___string_string__l4 [v0, v1, v2, v3] H =
  (vBinV (.int .i64) .lss v3 v2).bind fun x14_10 =>
  ifVV x14_10 (
  (vIdxV 1 (strip v0) v3).bind fun x18_15 =>
  (ldO globB false false 1 x18_15 H).bind fun r17 =>
  (vIdxV 1 (strip v1) (strip v3)).bind fun x22_20 =>
  (ldO globB false false 1 x22_20 r17.2).bind fun r22 =>
  (vBinV .str .neq r17.1 r22.1).bind fun x24_23 =>
  ifVV x24_23 (
  some (some 1, [(.bool false)], r22.2)) (
  (vBinV (.int .i64) .add (strip v3) (.int .i64 1)).bind fun x25_25 =>
  some (none, [v0, v1, v2, x25_25], r22.2))) (
  some (some 0, [], H)) := by kernel_rfl
theorem slices_Equal___string_string__eq (a0 a1 : V) (H : VH) : cv id_slices_Equal___string_string_ [a0, a1] H =
  (vLenVV (strip a0)).bind fun x7_2 =>
  (vLenVV (strip a1)).bind fun x9_4 =>
  (vBinV (.int .i64) .neq x7_2 x9_4).bind fun x10_5 =>
  ifVV x10_5 (
  some ((.bool false), H)) (
  (vLenVV (strip a0)).bind fun x12_8 =>
  (lpW' slices_Equal___string_string__l4 [a0, a1, x12_8, (.int .i64 0)] H).bind fun r27 =>
  inN r27.1 [
  gotV 0 r27.2.1 fun v28 =>
  some ((.bool true), r27.2.2),
  gotV 1 r27.2.1 fun v30 =>
  some ((v30 0), r27.2.2)]) := (callV_eq vb _ _ _ rfl).trans (by kernel_rfl)

/-! slices.EqualFunc[[]loop.example/mailwire/impl.Mail,[]loop.example/mailwire/impl.Mail,loop.example/mailwire/impl.Mail,loop.example/mailwire/impl.Mail] : kind 1, moves [] -/
noncomputable def slices_EqualFunc___impl_Mail___impl_Mail_impl_Mail_impl_Mail__l4 : List V → VH → Option (Option Nat × List V × VH) := roundV (vb.ctx cv lpW') (vb.b.ann 26) (vb.takes 26) ⟨⟨[1, 2, 15, 16, 17], [], []⟩, [(.exit 0, ⟨[], [], []⟩), (.ret, ⟨[6], [], []⟩)]⟩ (loopIn Tryz.f26 4)
theorem slices_EqualFunc___impl_Mail___impl_Mail_impl_Mail_impl_Mail__l4_eq (v0 v1 v2 v3 v4 : V) (H : VH) : slices_EqualFunc___impl_Mail___impl_Mail_impl_Mail_impl_Mail__l4 [v0, v1, v2, v3, v4] H =
  (vBinV (.int .i64) .lss v4 v3).bind fun x18_10 =>
  ifVV x18_10 (
  (vIdxV 3 v2 (strip v4)).bind fun x20_12 =>
  (ldO globB false true 3 x20_12 H).bind fun r14 =>
  (aggNV 3 r14.1).bind fun c18 =>
  (vIdxV 3 (strip v0) v4).bind fun x24_21 =>
  (ldO globB false true 3 x24_21 r14.2).bind fun r23 =>
  (aggNV 3 r23.1).bind fun c26 =>
  (calleeV v1).bind fun p31 =>
  (qc p31.1 ((([(.agg [(strip (c18.getD 0 .nilp)), (strip (c18.getD 1 .nilp)), (strip (c18.getD 2 .nilp))]), (.agg [(strip (c26.getD 0 .nilp)), (strip (c26.getD 1 .nilp)), (strip (c26.getD 2 .nilp))])] : List V) ++ p31.2).map (frz r23.2))).bind fun x29_30 =>
  (vUnV .not x29_30).bind fun x30_32 =>
  ifVV x30_32 (
  some (some 1, [(.bool false)], r23.2)) (
  (vBinV (.int .i64) .add (strip v4) (.int .i64 1)).bind fun x31_34 =>
  some (none, [v0, (strip v1), v2, v3, x31_34], r23.2))) (
  some (some 0, [], H)) := by kernel_rfl
theorem slices_EqualFunc___impl_Mail___impl_Mail_impl_Mail_impl_Mail__eq (a0 a1 a2 : V) (H : VH) : cv id_slices_EqualFunc___impl_Mail___impl_Mail_impl_Mail_impl_Mail_ [a0, a1, a2] H =
  (vLenVV (strip a0)).bind fun x11_2 =>
  (vLenVV (strip a1)).bind fun x13_4 =>
  (vBinV (.int .i64) .neq x11_2 x13_4).bind fun x14_5 =>
  ifVV x14_5 (
  some ((.bool false), H)) (
  (vLenVV (strip a0)).bind fun x16_8 =>
  (lpW' slices_EqualFunc___impl_Mail___impl_Mail_impl_Mail_impl_Mail__l4 [a1, a2, (strip a0), x16_8, (.int .i64 0)] H).bind fun r36 =>
  inN r36.1 [
  gotV 0 r36.2.1 fun v37 =>
  some ((.bool true), r36.2.2),
  gotV 1 r36.2.1 fun v39 =>
  some ((v39 0), r36.2.2)]) := (callV_eq vb _ _ _ rfl).trans (by kernel_rfl)

/-! loop.example/mailwire/laws.mwInts : kind 1, moves [] -/
noncomputable def laws_mwInts_l4 : List V → VH → Option (Option Nat × List V × VH) := roundV (vb.ctx cv lpW') (vb.b.ann 16) (vb.takes 16) ⟨⟨[0, 1, 5], [], []⟩, [(.exit 0, ⟨[], [], []⟩), (.ret, ⟨[4], [], []⟩)]⟩ (loopIn Tryz.f16 4)
theorem laws_mwInts_l4_eq (v0 v1 v2 : V) (H : VH) : laws_mwInts_l4 [v0, v1, v2] H =
  (vLenVV (strip v0)).bind fun x13_10 =>
  (vBinV (.int .i64) .lss v2 x13_10).bind fun x14_11 =>
  ifVV x14_11 (
  (vIdxV 1 (strip v0) (strip v2)).bind fun x19_14 =>
  (ldO globB false false 1 x19_14 H).bind fun r16 =>
  (vIdxV 1 (strip v1) (strip (strip v2))).bind fun x23_19 =>
  (ldO globB false false 1 x23_19 r16.2).bind fun r21 =>
  (vBinV (.int .i64) .neq r16.1 r21.1).bind fun x25_22 =>
  ifVV x25_22 (
  some (some 1, [(.bool false)], r21.2)) (
  (vBinV (.int .i64) .add (strip (strip (strip v2))) (.int .i64 1)).bind fun x16_25 =>
  some (none, [v0, v1, x16_25], r21.2))) (
  some (some 0, [], H)) := by kernel_rfl
theorem laws_mwInts_eq (a0 a1 : V) (H : VH) : cv id_laws_mwInts [a0, a1] H =
  (vLenVV (strip a0)).bind fun x7_2 =>
  (vLenVV (strip a1)).bind fun x9_4 =>
  (vBinV (.int .i64) .neq x7_2 x9_4).bind fun x10_5 =>
  ifVV x10_5 (
  some ((.bool false), H)) (
  (lpW' laws_mwInts_l4 [a0, a1, (.int .i64 0)] H).bind fun r27 =>
  inN r27.1 [
  gotV 0 r27.2.1 fun v28 =>
  some ((.bool true), r27.2.2),
  gotV 1 r27.2.1 fun v30 =>
  some ((v30 0), r27.2.2)]) := (callV_eq vb _ _ _ rfl).trans (by kernel_rfl)

end Go.Proofs.YtjbekhailkednabGreatDoor.Q
