/- What a call of each function comes to. -/
import Derived.Test.YtgpfabgnlpdpdaaQBaseZ
namespace Go.Proofs.Ytgpfabgnlpdpdaa.Q
open Go Go.AM Go.Proofs
set_option linter.unusedVariables false
set_option maxRecDepth 100000
/-! loop.example/mailwire/laws.FnReplyText : kind 1, moves [0] -/
theorem laws_FnReplyText_eq (a0 : V) (H : VH) : cv id_laws_FnReplyText [a0] H =
  (vLenVV a0).bind fun x6_2 =>
  (vBinV (.int .i64) .gtr x6_2 (.int .i64 1048576)).bind fun x7_3 =>
  ifVV x7_3 (
  some ((.bool true), H)) (
  (qc id_spec_DrawReplyText [(frz H (strip a0))]).bind fun x9_6 =>
  (qc id_impl_ReplyText [(frz H x9_6)]).bind fun x11_9 =>
  (id (
  (qc id_spec_ReplyText [(frz H (strip x9_6))]).bind fun x14_13 =>
  (vBinV .str .neq x11_9 x14_13).bind fun x15_14 =>
  ifVV x15_14 (
  (qc id_spec_ReplyText [(frz H (strip (strip x9_6)))]).bind fun x22_19 =>
  (vBinV .str .eql (strip x11_9) x22_19).bind fun x23_20 =>
  some (0, [x23_20], H)) (
  (vBinV .str .eql (strip x11_9) (.str [])).bind fun x18_23 =>
  ifVV x18_23 (
  (qc id_spec_ReplyText [(frz H (strip (strip x9_6)))]).bind fun x22_27 =>
  (vBinV .str .eql (strip (strip x11_9)) x22_27).bind fun x23_28 =>
  some (0, [x23_28], H)) (
  some (1, [(strip (strip x9_6)), (strip (strip x11_9))], H))) : Option (Nat × List V × VH))).bind fun r30 =>
  inN r30.1 [
  gotV 1 r30.2.1 fun v31 =>
  some ((v31 0), r30.2.2),
  gotV 2 r30.2.1 fun v32 =>
  (vBinV (.int .i64) .geq (v32 0) (.int .i64 200)).bind fun x25_34 =>
  ifVV x25_34 (
  (vBinV (.int .i64) .lss (strip (v32 0)) (.int .i64 600)).bind fun x28_37 =>
  ifVV x28_37 (
  (vIndexSV (v32 1) (.int .i64 0)).bind fun x32_41 =>
  (vBinV (.int .u8) .sub x32_41 (.int .u8 48)).bind fun x33_42 =>
  (vConvV .i64 x33_42).bind fun x34_43 =>
  (vBinV (.int .i64) .mul x34_43 (.int .i64 100)).bind fun x35_44 =>
  (vIndexSV (strip (v32 1)) (.int .i64 1)).bind fun x37_46 =>
  (vBinV (.int .u8) .sub x37_46 (.int .u8 48)).bind fun x38_47 =>
  (vConvV .i64 x38_47).bind fun x39_48 =>
  (vBinV (.int .i64) .mul x39_48 (.int .i64 10)).bind fun x40_49 =>
  (vBinV (.int .i64) .add x35_44 x40_49).bind fun x41_50 =>
  (vIndexSV (strip (strip (v32 1))) (.int .i64 2)).bind fun x43_52 =>
  (vBinV (.int .u8) .sub x43_52 (.int .u8 48)).bind fun x44_53 =>
  (vConvV .i64 x44_53).bind fun x45_54 =>
  (vBinV (.int .i64) .add x41_50 x45_54).bind fun x46_55 =>
  (vBinV (.int .i64) .eql x46_55 (strip (strip (v32 0)))).bind fun x48_57 =>
  ifVV x48_57 (
  (vIndexSV (strip (strip (strip (v32 1)))) (.int .i64 3)).bind fun x52_61 =>
  (vBinV (.int .u8) .eql x52_61 (.int .u8 32)).bind fun x53_62 =>
  some (x53_62, r30.2.2)) (
  some ((.bool false), r30.2.2))) (
  some ((.bool false), r30.2.2))) (
  some ((.bool false), r30.2.2))]) := (callV_eq vb _ _ _ rfl).trans (by kernel_rfl)

/-! loop.example/mailwire/spec.DrawReplyText : kind 1, moves [0] -/
theorem spec_DrawReplyText_eq (a0 : V) (H : VH) : cv id_spec_DrawReplyText [a0] H =
  (cv id_spec_l13Open [a0] H).bind fun r3 =>
  (cv id_spec_l13Rd_num [(strip r3.1), (.sl false (stripLL [[(.int .i64 250)], [(.int .i64 221)], [(.int .i64 354)], [(.int .i64 452)], [(.int .i64 500)], [(.int .i64 501)], [(.int .i64 503)], [(.int .i64 552)], [(.int .i64 0)], [(.int .i64 251)], [(.int .i64 (-1))]]))] r3.2).bind fun r6 =>
  some (r6.1, r6.2) := (callV_eq vb _ _ _ rfl).trans (by kernel_rfl)

/-! loop.example/mailwire/spec.l13Open : kind 0, moves [0] -/
theorem spec_l13Open_eq (a0 : V) (H : VH) : cv id_spec_l13Open [a0] H =
  (id (
  (vLenVV a0).bind fun x4_2 =>
  (vBinV (.int .i64) .gtr x4_2 (.int .i64 2000)).bind fun x5_3 =>
  ifVV x5_3 (
  (vSliceVV 1 (strip a0) none (some (.int .i64 2000))).bind fun x7_5 =>
  some (0, [x7_5], H)) (
  some (0, [(strip a0)], H)) : Option (Nat × List V × VH))).bind fun r7 =>
  inN r7.1 [
  gotV 1 r7.2.1 fun v8 =>
  (vOneV (v8 0)).bind fun y11 =>
  some ((.ptr r7.2.2.length 0), (r7.2.2 ++ [[y11, (.int .i64 0)]]))] := (callV_eq vb _ _ _ rfl).trans (by kernel_rfl)

/-! (*loop.example/mailwire/spec.l13Rd).num : kind 0, moves [] -/
theorem spec_l13Rd_num_eq (a0 a1 : V) (H : VH) : cv id_spec_l13Rd_num [a0, a1] H =
  (vLenVV (strip a1)).bind fun x8_4 =>
  (cv id_spec_l13Rd_pick [(strip a0), (strip x8_4)] H).bind fun r6 =>
  (vIdxV 1 a1 r6.1).bind fun x10_7 =>
  (ldO globB false false 1 x10_7 r6.2).bind fun r9 =>
  some (r9.1, r9.2) := (callV_eq vb _ _ _ rfl).trans (by kernel_rfl)

/-! (*loop.example/mailwire/spec.l13Rd).pick : kind 0, moves [] -/
theorem spec_l13Rd_pick_eq (a0 a1 : V) (H : VH) : cv id_spec_l13Rd_pick [a0, a1] H =
  (vNilV (strip a0)).bind fun x9_3 =>
  (vOffV x9_3 1).bind fun x10_4 =>
  (ldO globB false false 1 x10_4 H).bind fun r6 =>
  (vBinV (.int .i64) .add r6.1 (.int .i64 1)).bind fun x12_7 =>
  (vNilV a0).bind fun x13_8 =>
  (vOffV x13_8 1).bind fun x14_9 =>
  (vOneV x12_7).bind fun y11 =>
  (stO x14_9 [y11] r6.2).bind fun H12 =>
  (id (
  (vBinV (.int .i64) .lss a1 (.int .i64 1)).bind fun x16_14 =>
  ifVV x16_14 (
  some (0, [(.int .i64 0)], H12)) (
  (vNilV (strip (strip a0))).bind fun x19_19 =>
  (vOffV x19_19 0).bind fun x20_20 =>
  (ldO globB false false 1 x20_20 H12).bind fun r22 =>
  (vLenVV r22.1).bind fun x22_23 =>
  (vBinV (.int .i64) .eql x22_23 (.int .i64 0)).bind fun x23_24 =>
  ifVV x23_24 (
  some (0, [(.int .i64 0)], r22.2)) (
  some (1, [(strip (strip (strip a0))), (strip a1)], r22.2))) : Option (Nat × List V × VH))).bind fun r27 =>
  inN r27.1 [
  gotV 1 r27.2.1 fun v28 =>
  some ((v28 0), r27.2.2),
  gotV 2 r27.2.1 fun v29 =>
  (vNilV (v29 0)).bind fun x26_31 =>
  (vOffV x26_31 1).bind fun x27_32 =>
  (ldO globB false false 1 x27_32 r27.2.2).bind fun r34 =>
  (vBinV (.int .i64) .sub r34.1 (.int .i64 1)).bind fun x29_35 =>
  (vNilV (strip (v29 0))).bind fun x32_39 =>
  (vOffV x32_39 0).bind fun x33_40 =>
  (ldO globB false false 1 x33_40 r34.2).bind fun r42 =>
  (vLenVV r42.1).bind fun x35_43 =>
  (vBinV (.int .i64) .lss x29_35 x35_43).bind fun x36_44 =>
  ifVV x36_44 (
  (vNilV (strip (strip (v29 0)))).bind fun x38_46 =>
  (vOffV x38_46 0).bind fun x39_47 =>
  (ldO globB false false 1 x39_47 r42.2).bind fun r49 =>
  (vIdxV 1 r49.1 (strip x29_35)).bind fun x42_51 =>
  (ldO globB false false 1 x42_51 r49.2).bind fun r53 =>
  (vConvV .i64 r53.1).bind fun x44_54 =>
  (vBinV (.int .i64) .rem x44_54 (v29 1)).bind fun x46_56 =>
  some (x46_56, r53.2)) (
  (vNilV (strip (strip (v29 0)))).bind fun x48_59 =>
  (vOffV x48_59 0).bind fun x49_60 =>
  (ldO globB false false 1 x49_60 r42.2).bind fun r62 =>
  (vNilV (strip (strip (strip (v29 0))))).bind fun x53_65 =>
  (vOffV x53_65 0).bind fun x54_66 =>
  (ldO globB false false 1 x54_66 r62.2).bind fun r68 =>
  (vLenVV r68.1).bind fun x56_69 =>
  (vBinV (.int .i64) .rem (strip x29_35) x56_69).bind fun x57_70 =>
  (vIdxV 1 r62.1 x57_70).bind fun x58_71 =>
  (ldO globB false false 1 x58_71 r68.2).bind fun r73 =>
  (vConvV .i64 r73.1).bind fun x60_74 =>
  (vBinV (.int .i64) .mul x60_74 (.int .i64 131)).bind fun x61_75 =>
  (vNilV (strip (strip (strip (strip (v29 0)))))).bind fun x63_77 =>
  (vOffV x63_77 0).bind fun x64_78 =>
  (ldO globB false false 1 x64_78 r73.2).bind fun r80 =>
  (vBinV (.int .i64) .mul (strip (strip x29_35)) (.int .i64 7)).bind fun x67_82 =>
  (vBinV (.int .i64) .add x67_82 (.int .i64 3)).bind fun x68_83 =>
  (vNilV (strip (strip (strip (strip (strip (v29 0))))))).bind fun x70_85 =>
  (vOffV x70_85 0).bind fun x71_86 =>
  (ldO globB false false 1 x71_86 r80.2).bind fun r88 =>
  (vLenVV r88.1).bind fun x73_89 =>
  (vBinV (.int .i64) .rem x68_83 x73_89).bind fun x74_90 =>
  (vIdxV 1 r80.1 x74_90).bind fun x75_91 =>
  (ldO globB false false 1 x75_91 r88.2).bind fun r93 =>
  (vConvV .i64 r93.1).bind fun x77_94 =>
  (vBinV (.int .i64) .mul x77_94 (.int .i64 1117)).bind fun x78_95 =>
  (vBinV (.int .i64) .add x61_75 x78_95).bind fun x79_96 =>
  (vBinV (.int .i64) .mul (strip (strip (strip x29_35))) (.int .i64 29)).bind fun x81_98 =>
  (vBinV (.int .i64) .add x79_96 x81_98).bind fun x82_99 =>
  (vNilV (strip (strip (strip (strip (strip (strip (v29 0)))))))).bind fun x85_102 =>
  (vOffV x85_102 0).bind fun x86_103 =>
  (ldO globB false false 1 x86_103 r93.2).bind fun r105 =>
  (vLenVV r105.1).bind fun x88_106 =>
  (vBinV (.int .i64) .quo (strip (strip (strip (strip x29_35)))) x88_106).bind fun x89_107 =>
  (vBinV (.int .i64) .mul x89_107 (.int .i64 53)).bind fun x90_108 =>
  (vBinV (.int .i64) .add x82_99 x90_108).bind fun x91_109 =>
  (vBinV (.int .i64) .quo (strip x91_109) (.int .i64 64)).bind fun x94_113 =>
  (vBinV (.int .i64) .xor x91_109 x94_113).bind fun x95_114 =>
  (vBinV (.int .i64) .rem x95_114 (v29 1)).bind fun x98_118 =>
  some (x98_118, r105.2))] := (callV_eq vb _ _ _ rfl).trans (by kernel_rfl)

/-! loop.example/mailwire/impl.ReplyText : kind 1, moves [] -/
theorem impl_ReplyText_eq (a0 : V) (H : VH) : cv id_impl_ReplyText [a0] H =
  (vBinV (.int .i64) .eql a0 (.int .i64 221)).bind fun x5_2 =>
  ifVV x5_2 (
  some ((.str [50, 50, 49, 32, 98, 121, 101]), H)) (
  (vBinV (.int .i64) .eql a0 (.int .i64 250)).bind fun x7_5 =>
  ifVV x7_5 (
  some ((.str [50, 53, 48, 32, 111, 107]), H)) (
  (vBinV (.int .i64) .eql a0 (.int .i64 354)).bind fun x9_8 =>
  ifVV x9_8 (
  some ((.str [51, 53, 52, 32, 103, 111, 32, 111, 110]), H)) (
  (vBinV (.int .i64) .eql a0 (.int .i64 452)).bind fun x11_11 =>
  ifVV x11_11 (
  some ((.str [52, 53, 50, 32, 116, 111, 111, 32, 109, 97, 110, 121]), H)) (
  (vBinV (.int .i64) .eql a0 (.int .i64 500)).bind fun x13_14 =>
  ifVV x13_14 (
  some ((.str [53, 48, 48, 32, 119, 104, 97, 116]), H)) (
  (vBinV (.int .i64) .eql a0 (.int .i64 501)).bind fun x15_17 =>
  ifVV x15_17 (
  some ((.str [53, 48, 49, 32, 104, 111, 119]), H)) (
  (vBinV (.int .i64) .eql a0 (.int .i64 503)).bind fun x17_20 =>
  ifVV x17_20 (
  some ((.str [53, 48, 51, 32, 110, 111, 116, 32, 110, 111, 119]), H)) (
  (vBinV (.int .i64) .eql a0 (.int .i64 552)).bind fun x19_23 =>
  ifVV x19_23 (
  some ((.str [53, 53, 50, 32, 116, 111, 111, 32, 108, 111, 110, 103]), H)) (
  some ((.str []), H))))))))) := (callV_eq vb _ _ _ rfl).trans (by kernel_rfl)

/-! loop.example/mailwire/spec.ReplyText : kind 1, moves [] -/
theorem spec_ReplyText_eq (a0 : V) (H : VH) : cv id_spec_ReplyText [a0] H =
  (vBinV (.int .i64) .eql a0 (.int .i64 221)).bind fun x5_2 =>
  ifVV x5_2 (
  some ((.str [50, 50, 49, 32, 98, 121, 101]), H)) (
  (vBinV (.int .i64) .eql a0 (.int .i64 250)).bind fun x7_5 =>
  ifVV x7_5 (
  some ((.str [50, 53, 48, 32, 111, 107]), H)) (
  (vBinV (.int .i64) .eql a0 (.int .i64 354)).bind fun x9_8 =>
  ifVV x9_8 (
  some ((.str [51, 53, 52, 32, 103, 111, 32, 111, 110]), H)) (
  (vBinV (.int .i64) .eql a0 (.int .i64 452)).bind fun x11_11 =>
  ifVV x11_11 (
  some ((.str [52, 53, 50, 32, 116, 111, 111, 32, 109, 97, 110, 121]), H)) (
  (vBinV (.int .i64) .eql a0 (.int .i64 500)).bind fun x13_14 =>
  ifVV x13_14 (
  some ((.str [53, 48, 48, 32, 119, 104, 97, 116]), H)) (
  (vBinV (.int .i64) .eql a0 (.int .i64 501)).bind fun x15_17 =>
  ifVV x15_17 (
  some ((.str [53, 48, 49, 32, 104, 111, 119]), H)) (
  (vBinV (.int .i64) .eql a0 (.int .i64 503)).bind fun x17_20 =>
  ifVV x17_20 (
  some ((.str [53, 48, 51, 32, 110, 111, 116, 32, 110, 111, 119]), H)) (
  (vBinV (.int .i64) .eql a0 (.int .i64 552)).bind fun x19_23 =>
  ifVV x19_23 (
  some ((.str [53, 53, 50, 32, 116, 111, 111, 32, 108, 111, 110, 103]), H)) (
  some ((.str []), H))))))))) := (callV_eq vb _ _ _ rfl).trans (by kernel_rfl)

/-! loop.example/mailwire/laws.FnExactMailSame : kind 1, moves [] -/
theorem laws_FnExactMailSame_eq (a0 a1 : V) (H : VH) : cv id_laws_FnExactMailSame [a0, a1] H =
  (aggNV 3 a0).bind fun c1 =>
  (aggNV 3 a1).bind fun c3 =>
  (qc id_laws_szMail [(frz H (.agg [(strip (c1.getD 0 .nilp)), (strip (c1.getD 1 .nilp)), (strip (c1.getD 2 .nilp))])), (frz H (.int .i64 1048576))]).bind fun x12_8 =>
  (vBinV (.int .i64) .lss x12_8 (.int .i64 0)).bind fun x14_11 =>
  ifVV x14_11 (
  some ((.bool true), H)) (
  (qc id_laws_szMail [(frz H (.agg [(strip (c3.getD 0 .nilp)), (strip (c3.getD 1 .nilp)), (strip (c3.getD 2 .nilp))])), (frz H (strip x12_8))]).bind fun x17_15 =>
  (vBinV (.int .i64) .lss x17_15 (.int .i64 0)).bind fun x19_18 =>
  ifVV x19_18 (
  some ((.bool true), H)) (
  (pc id_laws_toMail [(frz H (.agg [(strip (c1.getD 0 .nilp)), (strip (c1.getD 1 .nilp)), (strip (c1.getD 2 .nilp))]))]).bind fun x21_21 =>
  (pc id_laws_toMail [(frz H (.agg [(strip (c3.getD 0 .nilp)), (strip (c3.getD 1 .nilp)), (strip (c3.getD 2 .nilp))]))]).bind fun x23_23 =>
  (qc id_spec_MailSame [(frz H x21_21), (frz H x23_23)]).bind fun x24_24 =>
  (pc id_laws_toMail [(frz H (.agg [(strip (c1.getD 0 .nilp)), (strip (c1.getD 1 .nilp)), (strip (c1.getD 2 .nilp))]))]).bind fun x26_27 =>
  (aggNV 3 x26_27).bind fun c30 =>
  (pc id_laws_toMail [(frz H (.agg [(strip (c3.getD 0 .nilp)), (strip (c3.getD 1 .nilp)), (strip (c3.getD 2 .nilp))]))]).bind fun x28_32 =>
  (aggNV 3 x28_32).bind fun c35 =>
  (qc id_impl_MailSame [(frz H (.agg [(strip (c30.getD 0 .nilp)), (strip (c30.getD 1 .nilp)), (strip (c30.getD 2 .nilp))])), (frz H (.agg [(strip (c35.getD 0 .nilp)), (strip (c35.getD 1 .nilp)), (strip (c35.getD 2 .nilp))]))]).bind fun x31_38 =>
  (vBinV .bool .neq x31_38 x24_24).bind fun x34_42 =>
  ifVV x34_42 (
  some ((.bool false), H)) (
  (pc id_laws_toMail [(frz H (.agg [(strip (c1.getD 0 .nilp)), (strip (c1.getD 1 .nilp)), (strip (c1.getD 2 .nilp))]))]).bind fun x37_46 =>
  (qc id_laws_eqMail [(frz H (.agg [(strip (c30.getD 0 .nilp)), (strip (c30.getD 1 .nilp)), (strip (c30.getD 2 .nilp))])), (frz H x37_46)]).bind fun x38_47 =>
  (vUnV .not x38_47).bind fun x39_48 =>
  ifVV x39_48 (
  some ((.bool false), H)) (
  (pc id_laws_toMail [(frz H (.agg [(strip (c3.getD 0 .nilp)), (strip (c3.getD 1 .nilp)), (strip (c3.getD 2 .nilp))]))]).bind fun x42_52 =>
  (qc id_laws_eqMail [(frz H (.agg [(strip (c35.getD 0 .nilp)), (strip (c35.getD 1 .nilp)), (strip (c35.getD 2 .nilp))])), (frz H x42_52)]).bind fun x43_53 =>
  (vUnV .not x43_53).bind fun x44_54 =>
  ifVV x44_54 (
  some ((.bool false), H)) (
  some ((.bool true), H)))))) := (callV_eq vb _ _ _ rfl).trans (by kernel_rfl)

/-! loop.example/mailwire/laws.szMail : kind 1, moves [] -/
theorem laws_szMail_eq (a0 a1 : V) (H : VH) : cv id_laws_szMail [a0, a1] H =
  (aggNV 3 a0).bind fun c1 =>
  (vLenSV (strip (c1.getD 0 .nilp))).bind fun x8_6 =>
  (vBinV (.int .i64) .sub a1 x8_6).bind fun x9_7 =>
  (vBinV (.int .i64) .lss x9_7 (.int .i64 0)).bind fun x11_10 =>
  ifVV x11_10 (
  some ((.int .i64 (-1)), H)) (
  (qc id_laws_szStringS [(frz H (strip (c1.getD 1 .nilp))), (frz H (strip x9_7))]).bind fun x15_15 =>
  (vBinV (.int .i64) .lss x15_15 (.int .i64 0)).bind fun x17_18 =>
  ifVV x17_18 (
  some ((.int .i64 (-1)), H)) (
  (qc id_laws_szStringS [(frz H (strip (c1.getD 2 .nilp))), (frz H (strip x15_15))]).bind fun x21_23 =>
  (vBinV (.int .i64) .lss x21_23 (.int .i64 0)).bind fun x23_26 =>
  ifVV x23_26 (
  some ((.int .i64 (-1)), H)) (
  some ((strip x21_23), H)))) := (callV_eq vb _ _ _ rfl).trans (by kernel_rfl)

/-! loop.example/mailwire/laws.szStringS : kind 1, moves [] -/
noncomputable def laws_szStringS_l5 : List V → VH → Option (Option Nat × List V × VH) := roundV (vb.ctx cv lpW') (vb.b.ann 27) (vb.takes 27) ⟨⟨[0, 1, 5], [], []⟩, [(.exit 0, ⟨[1], [], []⟩), (.ret, ⟨[4], [], []⟩)]⟩ (loopIn Try.f27 5)
theorem laws_szStringS_l5_eq (v0 v1 v2 : V) (H : VH) : laws_szStringS_l5 [v0, v1, v2] H =
  (vLenVV v0).bind fun x14_12 =>
  (vBinV (.int .i64) .lss v2 x14_12).bind fun x15_13 =>
  ifVV x15_13 (
  (vIdxV 1 (strip v0) (strip v2)).bind fun x21_17 =>
  (ldO globB false false 1 x21_17 H).bind fun r19 =>
  (vLenSV r19.1).bind fun x23_20 =>
  (vBinV (.int .i64) .sub v1 x23_20).bind fun x24_21 =>
  (vBinV (.int .i64) .lss x24_21 (.int .i64 0)).bind fun x26_24 =>
  ifVV x26_24 (
  some (some 1, [(.int .i64 (-1))], r19.2)) (
  (vBinV (.int .i64) .add (strip (strip v2)) (.int .i64 1)).bind fun x17_27 =>
  some (none, [(strip (strip v0)), (strip x24_21), x17_27], r19.2))) (
  some (some 0, [v1], H)) := by kernel_rfl
theorem laws_szStringS_eq (a0 a1 : V) (H : VH) : cv id_laws_szStringS [a0, a1] H =
  (vLenVV a0).bind fun x8_3 =>
  (vBinV (.int .i64) .sub a1 x8_3).bind fun x9_4 =>
  (vBinV (.int .i64) .lss x9_4 (.int .i64 0)).bind fun x11_7 =>
  ifVV x11_7 (
  some ((.int .i64 (-1)), H)) (
  (lpW' laws_szStringS_l5 [(strip a0), (strip x9_4), (.int .i64 0)] H).bind fun r29 =>
  inN r29.1 [
  gotV 1 r29.2.1 fun v30 =>
  some ((v30 0), r29.2.2),
  gotV 1 r29.2.1 fun v33 =>
  some ((v33 0), r29.2.2)]) := (callV_eq vb _ _ _ rfl).trans (by kernel_rfl)

/-! loop.example/mailwire/laws.toMail : kind 2, moves [] -/
theorem laws_toMail_eq (a0 : V) (H : VH) : cv id_laws_toMail [a0] H =
  (aggNV 3 a0).bind fun c1 =>
  (vOneV (strip (c1.getD 0 .nilp))).bind fun y8 =>
  (pc id_laws_toStringS [(frz H (strip (c1.getD 1 .nilp)))]).bind fun x9_11 =>
  (vOneV x9_11).bind fun y14 =>
  (pc id_laws_toStringS [(frz H (strip (c1.getD 2 .nilp)))]).bind fun x13_17 =>
  (vOneV x13_17).bind fun y20 =>
  some ((.agg [y8, y14, y20]), H) := (callV_eq vb _ _ _ rfl).trans (by kernel_rfl)

/-! loop.example/mailwire/laws.toStringS : kind 2, moves [] -/
theorem laws_toStringS_eq (a0 : V) (H : VH) : cv id_laws_toStringS [a0] H =
  (vLenVV a0).bind fun x6_2 =>
  none := (callV_eq vb _ _ _ rfl).trans (by kernel_rfl)

/-! loop.example/mailwire/spec.MailSame : kind 1, moves [] -/
theorem spec_MailSame_eq (a0 a1 : V) (H : VH) : cv id_spec_MailSame [a0, a1] H =
  (aggNV 3 a0).bind fun c1 =>
  (aggNV 3 a1).bind fun c3 =>
  (vBinV .str .eql (strip (c1.getD 0 .nilp)) (strip (c3.getD 0 .nilp))).bind fun x9_9 =>
  ifVV x9_9 (
  (qc id_spec_l10Texts [(frz H (strip (c1.getD 1 .nilp))), (frz H (strip (c3.getD 1 .nilp)))]).bind fun x15_15 =>
  ifVV x15_15 (
  (qc id_spec_l10Texts [(frz H (strip (c1.getD 2 .nilp))), (frz H (strip (c3.getD 2 .nilp)))]).bind fun x22_22 =>
  some (x22_22, H)) (
  some ((.bool false), H))) (
  some ((.bool false), H)) := (callV_eq vb _ _ _ rfl).trans (by kernel_rfl)

/-! loop.example/mailwire/spec.l10Texts : kind 1, moves [] -/
noncomputable def spec_l10Texts_l4 : List V → VH → Option (Option Nat × List V × VH) := roundV (vb.ctx cv lpW') (vb.b.ann 28) (vb.takes 28) ⟨⟨[0, 1, 5], [], []⟩, [(.exit 0, ⟨[], [], []⟩), (.ret, ⟨[4], [], []⟩)]⟩ (loopIn Try.f28 4)
theorem spec_l10Texts_l4_eq (v0 v1 v2 : V) (H : VH) : spec_l10Texts_l4 [v0, v1, v2] H =
  (vLenVV v0).bind fun x13_10 =>
  (vBinV (.int .i64) .lss v2 x13_10).bind fun x14_11 =>
  ifVV x14_11 (
  (vIdxV 1 (strip v0) (strip v2)).bind fun x19_14 =>
  (ldO globB false false 1 x19_14 H).bind fun r16 =>
  (vIdxV 1 v1 (strip (strip v2))).bind fun x23_19 =>
  (ldO globB false false 1 x23_19 r16.2).bind fun r21 =>
  (vBinV .str .neq r16.1 r21.1).bind fun x25_22 =>
  ifVV x25_22 (
  some (some 1, [(.bool false)], r21.2)) (
  (vBinV (.int .i64) .add (strip (strip (strip v2))) (.int .i64 1)).bind fun x16_25 =>
  some (none, [(strip (strip v0)), (strip v1), x16_25], r21.2))) (
  some (some 0, [], H)) := by kernel_rfl
theorem spec_l10Texts_eq (a0 a1 : V) (H : VH) : cv id_spec_l10Texts [a0, a1] H =
  (vLenVV a0).bind fun x7_2 =>
  (vLenVV a1).bind fun x9_4 =>
  (vBinV (.int .i64) .neq x7_2 x9_4).bind fun x10_5 =>
  ifVV x10_5 (
  some ((.bool false), H)) (
  (lpW' spec_l10Texts_l4 [(strip a0), (strip a1), (.int .i64 0)] H).bind fun r27 =>
  inN r27.1 [
  gotV 0 r27.2.1 fun v28 =>
  some ((.bool true), r27.2.2),
  gotV 1 r27.2.1 fun v30 =>
  some ((v30 0), r27.2.2)]) := (callV_eq vb _ _ _ rfl).trans (by kernel_rfl)

/-! loop.example/mailwire/impl.MailSame : kind 1, moves [] -/
theorem impl_MailSame_eq (a0 a1 : V) (H : VH) : cv id_impl_MailSame [a0, a1] H =
  (aggNV 3 a0).bind fun c1 =>
  (aggNV 3 a1).bind fun c3 =>
  (vBinV .str .eql (strip (c1.getD 0 .nilp)) (strip (c3.getD 0 .nilp))).bind fun x9_9 =>
  ifVV x9_9 (
  (qc id_slices_Equal___string_string_ [(frz H (strip (c1.getD 1 .nilp))), (frz H (strip (c3.getD 1 .nilp)))]).bind fun x15_15 =>
  ifVV x15_15 (
  (qc id_slices_Equal___string_string_ [(frz H (strip (c1.getD 2 .nilp))), (frz H (strip (c3.getD 2 .nilp)))]).bind fun x22_22 =>
  some (x22_22, H)) (
  some ((.bool false), H))) (
  some ((.bool false), H)) := (callV_eq vb _ _ _ rfl).trans (by kernel_rfl)

/-! slices.Equal[[]string,string] : kind 1, moves [] -/
noncomputable def slices_Equal___string_string__l4 : List V → VH → Option (Option Nat × List V × VH) := roundV (vb.ctx cv lpW') (vb.b.ann 30) (vb.takes 30) ⟨⟨[0, 1, 12, 13], [], []⟩, [(.exit 0, ⟨[], [], []⟩), (.ret, ⟨[4], [], []⟩)]⟩ (loopIn Try.f30 4)
theorem slices_Equal___string_string__l4_eq (v0 v1 v2 v3 : V) (H : VH) : slices_Equal___string_string__l4 [v0, v1, v2, v3] H =
  (vBinV (.int .i64) .lss v3 v2).bind fun x14_10 =>
  ifVV x14_10 (
  (vIdxV 1 v0 v3).bind fun x18_15 =>
  (ldO globB false false 1 x18_15 H).bind fun r17 =>
  (vIdxV 1 v1 (strip v3)).bind fun x22_20 =>
  (ldO globB false false 1 x22_20 r17.2).bind fun r22 =>
  (vBinV .str .neq r17.1 r22.1).bind fun x24_23 =>
  ifVV x24_23 (
  some (some 1, [(.bool false)], r22.2)) (
  (vBinV (.int .i64) .add (strip v3) (.int .i64 1)).bind fun x25_25 =>
  some (none, [(strip v0), (strip v1), v2, x25_25], r22.2))) (
  some (some 0, [], H)) := by kernel_rfl
theorem slices_Equal___string_string__eq (a0 a1 : V) (H : VH) : cv id_slices_Equal___string_string_ [a0, a1] H =
  (vLenVV a0).bind fun x7_2 =>
  (vLenVV a1).bind fun x9_4 =>
  (vBinV (.int .i64) .neq x7_2 x9_4).bind fun x10_5 =>
  ifVV x10_5 (
  some ((.bool false), H)) (
  (vLenVV (strip a0)).bind fun x12_8 =>
  (lpW' slices_Equal___string_string__l4 [(strip (strip a0)), (strip a1), x12_8, (.int .i64 0)] H).bind fun r27 =>
  inN r27.1 [
  gotV 0 r27.2.1 fun v28 =>
  some ((.bool true), r27.2.2),
  gotV 1 r27.2.1 fun v30 =>
  some ((v30 0), r27.2.2)]) := (callV_eq vb _ _ _ rfl).trans (by kernel_rfl)

/-! loop.example/mailwire/laws.eqMail : kind 1, moves [] -/
theorem laws_eqMail_eq (a0 a1 : V) (H : VH) : cv id_laws_eqMail [a0, a1] H =
  (aggNV 3 a0).bind fun c1 =>
  (aggNV 3 a1).bind fun c3 =>
  (vBinV .str .neq (strip (c1.getD 0 .nilp)) (strip (c3.getD 0 .nilp))).bind fun x9_9 =>
  ifVV x9_9 (
  some ((.bool false), H)) (
  (qc id_laws_eqStringS [(frz H (strip (c1.getD 1 .nilp))), (frz H (strip (c3.getD 1 .nilp)))]).bind fun x14_15 =>
  (vUnV .not x14_15).bind fun x15_16 =>
  ifVV x15_16 (
  some ((.bool false), H)) (
  (qc id_laws_eqStringS [(frz H (strip (c1.getD 2 .nilp))), (frz H (strip (c3.getD 2 .nilp)))]).bind fun x20_22 =>
  (vUnV .not x20_22).bind fun x21_23 =>
  ifVV x21_23 (
  some ((.bool false), H)) (
  some ((.bool true), H)))) := (callV_eq vb _ _ _ rfl).trans (by kernel_rfl)

/-! loop.example/mailwire/laws.eqStringS : kind 1, moves [] -/
noncomputable def laws_eqStringS_l4 : List V → VH → Option (Option Nat × List V × VH) := roundV (vb.ctx cv lpW') (vb.b.ann 31) (vb.takes 31) ⟨⟨[0, 1, 5], [], []⟩, [(.exit 0, ⟨[], [], []⟩), (.ret, ⟨[4], [], []⟩)]⟩ (loopIn Try.f31 4)
theorem laws_eqStringS_l4_eq (v0 v1 v2 : V) (H : VH) : laws_eqStringS_l4 [v0, v1, v2] H =
  (vLenVV v0).bind fun x13_10 =>
  (vBinV (.int .i64) .lss v2 x13_10).bind fun x14_11 =>
  ifVV x14_11 (
  (vIdxV 1 (strip v0) (strip v2)).bind fun x19_14 =>
  (ldO globB false false 1 x19_14 H).bind fun r16 =>
  (vIdxV 1 v1 (strip (strip v2))).bind fun x23_19 =>
  (ldO globB false false 1 x23_19 r16.2).bind fun r21 =>
  (vBinV .str .neq r16.1 r21.1).bind fun x25_22 =>
  ifVV x25_22 (
  some (some 1, [(.bool false)], r21.2)) (
  (vBinV (.int .i64) .add (strip (strip (strip v2))) (.int .i64 1)).bind fun x16_25 =>
  some (none, [(strip (strip v0)), (strip v1), x16_25], r21.2))) (
  some (some 0, [], H)) := by kernel_rfl
theorem laws_eqStringS_eq (a0 a1 : V) (H : VH) : cv id_laws_eqStringS [a0, a1] H =
  (vLenVV a0).bind fun x7_2 =>
  (vLenVV a1).bind fun x9_4 =>
  (vBinV (.int .i64) .neq x7_2 x9_4).bind fun x10_5 =>
  ifVV x10_5 (
  some ((.bool false), H)) (
  (lpW' laws_eqStringS_l4 [(strip a0), (strip a1), (.int .i64 0)] H).bind fun r27 =>
  inN r27.1 [
  gotV 0 r27.2.1 fun v28 =>
  some ((.bool true), r27.2.2),
  gotV 1 r27.2.1 fun v30 =>
  some ((v30 0), r27.2.2)]) := (callV_eq vb _ _ _ rfl).trans (by kernel_rfl)

/-! loop.example/mailwire/laws.FnExactSessionSame : kind 1, moves [] -/
theorem laws_FnExactSessionSame_eq (a0 a1 : V) (H : VH) : cv id_laws_FnExactSessionSame [a0, a1] H =
  (aggNV 6 a0).bind fun c1 =>
  (aggNV 6 a1).bind fun c3 =>
  (qc id_laws_szSession [(frz H (.agg [(strip (c1.getD 0 .nilp)), (strip (c1.getD 1 .nilp)), (strip (c1.getD 2 .nilp)), (strip (c1.getD 3 .nilp)), (strip (c1.getD 4 .nilp)), (strip (c1.getD 5 .nilp))])), (frz H (.int .i64 1048576))]).bind fun x12_8 =>
  (vBinV (.int .i64) .lss x12_8 (.int .i64 0)).bind fun x14_11 =>
  ifVV x14_11 (
  some ((.bool true), H)) (
  (qc id_laws_szSession [(frz H (.agg [(strip (c3.getD 0 .nilp)), (strip (c3.getD 1 .nilp)), (strip (c3.getD 2 .nilp)), (strip (c3.getD 3 .nilp)), (strip (c3.getD 4 .nilp)), (strip (c3.getD 5 .nilp))])), (frz H (strip x12_8))]).bind fun x17_15 =>
  (vBinV (.int .i64) .lss x17_15 (.int .i64 0)).bind fun x19_18 =>
  ifVV x19_18 (
  some ((.bool true), H)) (
  (pc id_laws_toSession [(frz H (.agg [(strip (c1.getD 0 .nilp)), (strip (c1.getD 1 .nilp)), (strip (c1.getD 2 .nilp)), (strip (c1.getD 3 .nilp)), (strip (c1.getD 4 .nilp)), (strip (c1.getD 5 .nilp))]))]).bind fun x21_21 =>
  (pc id_laws_toSession [(frz H (.agg [(strip (c3.getD 0 .nilp)), (strip (c3.getD 1 .nilp)), (strip (c3.getD 2 .nilp)), (strip (c3.getD 3 .nilp)), (strip (c3.getD 4 .nilp)), (strip (c3.getD 5 .nilp))]))]).bind fun x23_23 =>
  (qc id_spec_SessionSame [(frz H x21_21), (frz H x23_23)]).bind fun x24_24 =>
  (pc id_laws_toSession [(frz H (.agg [(strip (c1.getD 0 .nilp)), (strip (c1.getD 1 .nilp)), (strip (c1.getD 2 .nilp)), (strip (c1.getD 3 .nilp)), (strip (c1.getD 4 .nilp)), (strip (c1.getD 5 .nilp))]))]).bind fun x26_27 =>
  (aggNV 6 x26_27).bind fun c30 =>
  (pc id_laws_toSession [(frz H (.agg [(strip (c3.getD 0 .nilp)), (strip (c3.getD 1 .nilp)), (strip (c3.getD 2 .nilp)), (strip (c3.getD 3 .nilp)), (strip (c3.getD 4 .nilp)), (strip (c3.getD 5 .nilp))]))]).bind fun x28_32 =>
  (aggNV 6 x28_32).bind fun c35 =>
  (qc id_impl_SessionSame [(frz H (.agg [(strip (c30.getD 0 .nilp)), (strip (c30.getD 1 .nilp)), (strip (c30.getD 2 .nilp)), (strip (c30.getD 3 .nilp)), (strip (c30.getD 4 .nilp)), (strip (c30.getD 5 .nilp))])), (frz H (.agg [(strip (c35.getD 0 .nilp)), (strip (c35.getD 1 .nilp)), (strip (c35.getD 2 .nilp)), (strip (c35.getD 3 .nilp)), (strip (c35.getD 4 .nilp)), (strip (c35.getD 5 .nilp))]))]).bind fun x31_38 =>
  (vBinV .bool .neq x31_38 x24_24).bind fun x34_42 =>
  ifVV x34_42 (
  some ((.bool false), H)) (
  (pc id_laws_toSession [(frz H (.agg [(strip (c1.getD 0 .nilp)), (strip (c1.getD 1 .nilp)), (strip (c1.getD 2 .nilp)), (strip (c1.getD 3 .nilp)), (strip (c1.getD 4 .nilp)), (strip (c1.getD 5 .nilp))]))]).bind fun x37_46 =>
  (qc id_laws_eqSession [(frz H (.agg [(strip (c30.getD 0 .nilp)), (strip (c30.getD 1 .nilp)), (strip (c30.getD 2 .nilp)), (strip (c30.getD 3 .nilp)), (strip (c30.getD 4 .nilp)), (strip (c30.getD 5 .nilp))])), (frz H x37_46)]).bind fun x38_47 =>
  (vUnV .not x38_47).bind fun x39_48 =>
  ifVV x39_48 (
  some ((.bool false), H)) (
  (pc id_laws_toSession [(frz H (.agg [(strip (c3.getD 0 .nilp)), (strip (c3.getD 1 .nilp)), (strip (c3.getD 2 .nilp)), (strip (c3.getD 3 .nilp)), (strip (c3.getD 4 .nilp)), (strip (c3.getD 5 .nilp))]))]).bind fun x42_52 =>
  (qc id_laws_eqSession [(frz H (.agg [(strip (c35.getD 0 .nilp)), (strip (c35.getD 1 .nilp)), (strip (c35.getD 2 .nilp)), (strip (c35.getD 3 .nilp)), (strip (c35.getD 4 .nilp)), (strip (c35.getD 5 .nilp))])), (frz H x42_52)]).bind fun x43_53 =>
  (vUnV .not x43_53).bind fun x44_54 =>
  ifVV x44_54 (
  some ((.bool false), H)) (
  some ((.bool true), H)))))) := (callV_eq vb _ _ _ rfl).trans (by kernel_rfl)

/-! loop.example/mailwire/laws.szSession : kind 1, moves [] -/
theorem laws_szSession_eq (a0 a1 : V) (H : VH) : cv id_laws_szSession [a0, a1] H =
  (aggNV 6 a0).bind fun c1 =>
  (vLenSV (strip (c1.getD 1 .nilp))).bind fun x8_6 =>
  (vBinV (.int .i64) .sub a1 x8_6).bind fun x9_7 =>
  (vBinV (.int .i64) .lss x9_7 (.int .i64 0)).bind fun x11_10 =>
  ifVV x11_10 (
  some ((.int .i64 (-1)), H)) (
  (qc id_laws_szMail [(frz H (.agg [(strip (c1.getD 2 .nilp)), (strip (c1.getD 3 .nilp)), (strip (c1.getD 4 .nilp))])), (frz H (strip x9_7))]).bind fun x15_15 =>
  (vBinV (.int .i64) .lss x15_15 (.int .i64 0)).bind fun x17_18 =>
  ifVV x17_18 (
  some ((.int .i64 (-1)), H)) (
  (qc id_laws_szMailS [(frz H (strip (c1.getD 5 .nilp))), (frz H (strip x15_15))]).bind fun x21_23 =>
  (vBinV (.int .i64) .lss x21_23 (.int .i64 0)).bind fun x23_26 =>
  ifVV x23_26 (
  some ((.int .i64 (-1)), H)) (
  some ((strip x21_23), H)))) := (callV_eq vb _ _ _ rfl).trans (by kernel_rfl)

/-! loop.example/mailwire/laws.szMailS : kind 1, moves [] -/
noncomputable def laws_szMailS_l5 : List V → VH → Option (Option Nat × List V × VH) := roundV (vb.ctx cv lpW') (vb.b.ann 32) (vb.takes 32) ⟨⟨[0, 1, 5], [], []⟩, [(.exit 0, ⟨[1], [], []⟩), (.ret, ⟨[4], [], []⟩)]⟩ (loopIn Try.f32 5)
theorem laws_szMailS_l5_eq (v0 v1 v2 : V) (H : VH) : laws_szMailS_l5 [v0, v1, v2] H =
  (vLenVV v0).bind fun x14_12 =>
  (vBinV (.int .i64) .lss v2 x14_12).bind fun x15_13 =>
  ifVV x15_13 (
  (vIdxV 3 (strip v0) (strip v2)).bind fun x20_16 =>
  (ldO globB false true 3 x20_16 H).bind fun r18 =>
  (qc id_laws_szMail [(frz r18.2 r18.1), (frz r18.2 v1)]).bind fun x23_20 =>
  (vBinV (.int .i64) .lss x23_20 (.int .i64 0)).bind fun x25_23 =>
  ifVV x25_23 (
  some (some 1, [(.int .i64 (-1))], r18.2)) (
  (vBinV (.int .i64) .add (strip (strip v2)) (.int .i64 1)).bind fun x17_26 =>
  some (none, [(strip (strip v0)), (strip x23_20), x17_26], r18.2))) (
  some (some 0, [v1], H)) := by kernel_rfl
theorem laws_szMailS_eq (a0 a1 : V) (H : VH) : cv id_laws_szMailS [a0, a1] H =
  (vLenVV a0).bind fun x8_3 =>
  (vBinV (.int .i64) .sub a1 x8_3).bind fun x9_4 =>
  (vBinV (.int .i64) .lss x9_4 (.int .i64 0)).bind fun x11_7 =>
  ifVV x11_7 (
  some ((.int .i64 (-1)), H)) (
  (lpW' laws_szMailS_l5 [(strip a0), (strip x9_4), (.int .i64 0)] H).bind fun r28 =>
  inN r28.1 [
  gotV 1 r28.2.1 fun v29 =>
  some ((v29 0), r28.2.2),
  gotV 1 r28.2.1 fun v32 =>
  some ((v32 0), r28.2.2)]) := (callV_eq vb _ _ _ rfl).trans (by kernel_rfl)

/-! loop.example/mailwire/laws.toSession : kind 2, moves [] -/
theorem laws_toSession_eq (a0 : V) (H : VH) : cv id_laws_toSession [a0] H =
  (aggNV 6 a0).bind fun c1 =>
  (vOneV (strip (c1.getD 0 .nilp))).bind fun y8 =>
  (vOneV (strip (c1.getD 1 .nilp))).bind fun y13 =>
  (pc id_laws_toMail [(frz H (.agg [(strip (c1.getD 2 .nilp)), (strip (c1.getD 3 .nilp)), (strip (c1.getD 4 .nilp))]))]).bind fun x12_16 =>
  (aggNV 3 x12_16).bind fun c19 =>
  (pc id_laws_toMailS [(frz H (strip (c1.getD 5 .nilp)))]).bind fun x16_22 =>
  (vOneV x16_22).bind fun y25 =>
  some ((.agg [y8, y13, (c19.getD 0 .nilp), (c19.getD 1 .nilp), (c19.getD 2 .nilp), y25]), H) := (callV_eq vb _ _ _ rfl).trans (by kernel_rfl)

/-! loop.example/mailwire/laws.toMailS : kind 2, moves [] -/
theorem laws_toMailS_eq (a0 : V) (H : VH) : cv id_laws_toMailS [a0] H =
  (vLenVV a0).bind fun x6_2 =>
  none := (callV_eq vb _ _ _ rfl).trans (by kernel_rfl)

/-! loop.example/mailwire/spec.SessionSame : kind 1, moves [] -/
noncomputable def spec_SessionSame_l4 : List V → VH → Option (Option Nat × List V × VH) := roundV (vb.ctx cv lpW') (vb.b.ann 16) (vb.takes 16) ⟨⟨[5], [(2, (2, 0)), (3, (3, 0))], [(2, 6), (3, 6)]⟩, [(.exit 0, ⟨[], [], []⟩), (.ret, ⟨[4], [], []⟩)]⟩ (loopIn Try.f16 4)
theorem spec_SessionSame_l4_eq (v0 v1 v2 v3 v4 v5 v6 v7 v8 v9 v10 v11 v12 : V) (H : VH) : spec_SessionSame_l4 [v0, v1, v2, v3, v4, v5, v6, v7, v8, v9, v10, v11, v12] H =
  (vLenVV (strip v6)).bind fun x38_54 =>
  (vBinV (.int .i64) .lss v0 x38_54).bind fun x39_55 =>
  ifVV x39_55 (
  (vIdxV 3 (strip v6) (strip v0)).bind fun x45_59 =>
  (ldO globB false true 3 x45_59 H).bind fun r61 =>
  (vIdxV 3 (strip v12) (strip (strip v0))).bind fun x50_65 =>
  (ldO globB false true 3 x50_65 r61.2).bind fun r67 =>
  (qc id_spec_MailSame [(frz r67.2 r61.1), (frz r67.2 r67.1)]).bind fun x52_68 =>
  (vUnV .not x52_68).bind fun x53_69 =>
  ifVV x53_69 (
  some (some 1, [(.bool false)], r67.2)) (
  (vBinV (.int .i64) .add (strip (strip (strip v0))) (.int .i64 1)).bind fun x41_72 =>
  some (none, [x41_72, v1, v2, v3, v4, v5, v6, v7, v8, v9, v10, v11, v12], r67.2))) (
  some (some 0, [], H)) := by kernel_rfl
theorem spec_SessionSame_eq (a0 a1 : V) (H : VH) : cv id_spec_SessionSame [a0, a1] H =
  (aggNV 6 a0).bind fun c1 =>
  (aggNV 6 a1).bind fun c3 =>
  (id (
  (vBinV (.int .i64) .neq (strip (c1.getD 0 .nilp)) (strip (c3.getD 0 .nilp))).bind fun x10_9 =>
  ifVV x10_9 (
  some (0, [(.bool false)], H)) (
  (vBinV .str .neq (strip (c1.getD 1 .nilp)) (strip (c3.getD 1 .nilp))).bind fun x16_21 =>
  ifVV x16_21 (
  some (0, [(.bool false)], H)) (
  (qc id_spec_MailSame [(frz H (.agg [(strip (c1.getD 2 .nilp)), (strip (c1.getD 3 .nilp)), (strip (c1.getD 4 .nilp))])), (frz H (.agg [(strip (c3.getD 2 .nilp)), (strip (c3.getD 3 .nilp)), (strip (c3.getD 4 .nilp))]))]).bind fun x23_32 =>
  (vUnV .not x23_32).bind fun x24_33 =>
  ifVV x24_33 (
  some (0, [(.bool false)], H)) (
  (vLenVV (strip (c1.getD 5 .nilp))).bind fun x29_40 =>
  (vLenVV (strip (c3.getD 5 .nilp))).bind fun x32_43 =>
  (vBinV (.int .i64) .neq x29_40 x32_43).bind fun x33_44 =>
  ifVV x33_44 (
  some (0, [(.bool false)], H)) (
  some (1, [(c1.getD 0 .nilp), (c1.getD 1 .nilp), (c1.getD 2 .nilp), (c1.getD 3 .nilp), (c1.getD 4 .nilp), (c1.getD 5 .nilp), (c3.getD 0 .nilp), (c3.getD 1 .nilp), (c3.getD 2 .nilp), (c3.getD 3 .nilp), (c3.getD 4 .nilp), (c3.getD 5 .nilp)], H))))) : Option (Nat × List V × VH))).bind fun r47 =>
  inN r47.1 [
  gotV 1 r47.2.1 fun v48 =>
  some ((v48 0), r47.2.2),
  gotV 12 r47.2.1 fun v49 =>
  (lpW' spec_SessionSame_l4 [(.int .i64 0), (v49 0), (v49 1), (v49 2), (v49 3), (v49 4), (v49 5), (v49 6), (v49 7), (v49 8), (v49 9), (v49 10), (v49 11)] r47.2.2).bind fun r74 =>
  inN r74.1 [
  gotV 0 r74.2.1 fun v75 =>
  some ((.bool true), r74.2.2),
  gotV 1 r74.2.1 fun v77 =>
  some ((v77 0), r74.2.2)]] := (callV_eq vb _ _ _ rfl).trans (by kernel_rfl)

/-! loop.example/mailwire/impl.SessionSame : kind 1, moves [] -/
theorem impl_SessionSame_eq (a0 a1 : V) (H : VH) : cv id_impl_SessionSame [a0, a1] H =
  (aggNV 6 a0).bind fun c1 =>
  (aggNV 6 a1).bind fun c3 =>
  (vBinV (.int .i64) .eql (strip (c1.getD 0 .nilp)) (strip (c3.getD 0 .nilp))).bind fun x9_9 =>
  ifVV x9_9 (
  (vBinV .str .eql (strip (c1.getD 1 .nilp)) (strip (c3.getD 1 .nilp))).bind fun x15_15 =>
  ifVV x15_15 (
  (qc id_impl_MailSame [(frz H (.agg [(strip (c1.getD 2 .nilp)), (strip (c1.getD 3 .nilp)), (strip (c1.getD 4 .nilp))])), (frz H (.agg [(strip (c3.getD 2 .nilp)), (strip (c3.getD 3 .nilp)), (strip (c3.getD 4 .nilp))]))]).bind fun x22_22 =>
  ifVV x22_22 (
  (qc id_slices_EqualFunc___impl_Mail___impl_Mail_impl_Mail_impl_Mail_ [(frz H (strip (c1.getD 5 .nilp))), (frz H (strip (c3.getD 5 .nilp))), (frz H (.fn id_impl_MailSame []))]).bind fun x29_29 =>
  some (x29_29, H)) (
  some ((.bool false), H))) (
  some ((.bool false), H))) (
  some ((.bool false), H)) := (callV_eq vb _ _ _ rfl).trans (by kernel_rfl)

/-! slices.EqualFunc[[]loop.example/mailwire/impl.Mail,[]loop.example/mailwire/impl.Mail,loop.example/mailwire/impl.Mail,loop.example/mailwire/impl.Mail] : kind 1, moves [] -/
noncomputable def slices_EqualFunc___impl_Mail___impl_Mail_impl_Mail_impl_Mail__l4 : List V → VH → Option (Option Nat × List V × VH) := roundV (vb.ctx cv lpW') (vb.b.ann 34) (vb.takes 34) ⟨⟨[1, 2, 15, 16, 17], [], []⟩, [(.exit 0, ⟨[], [], []⟩), (.ret, ⟨[6], [], []⟩)]⟩ (loopIn Try.f34 4)
theorem slices_EqualFunc___impl_Mail___impl_Mail_impl_Mail_impl_Mail__l4_eq (v0 v1 v2 v3 v4 : V) (H : VH) : slices_EqualFunc___impl_Mail___impl_Mail_impl_Mail_impl_Mail__l4 [v0, v1, v2, v3, v4] H =
  (vBinV (.int .i64) .lss v4 v3).bind fun x18_10 =>
  ifVV x18_10 (
  (vIdxV 3 v2 (strip v4)).bind fun x20_12 =>
  (ldO globB false true 3 x20_12 H).bind fun r14 =>
  (aggNV 3 r14.1).bind fun c18 =>
  (vIdxV 3 v0 v4).bind fun x24_21 =>
  (ldO globB false true 3 x24_21 r14.2).bind fun r23 =>
  (aggNV 3 r23.1).bind fun c26 =>
  (calleeV v1).bind fun p31 =>
  (qc p31.1 ((([(.agg [(strip (c18.getD 0 .nilp)), (strip (c18.getD 1 .nilp)), (strip (c18.getD 2 .nilp))]), (.agg [(strip (c26.getD 0 .nilp)), (strip (c26.getD 1 .nilp)), (strip (c26.getD 2 .nilp))])] : List V) ++ p31.2).map (frz r23.2))).bind fun x29_30 =>
  (vUnV .not x29_30).bind fun x30_32 =>
  ifVV x30_32 (
  some (some 1, [(.bool false)], r23.2)) (
  (vBinV (.int .i64) .add (strip v4) (.int .i64 1)).bind fun x31_34 =>
  some (none, [(strip v0), (strip v1), v2, v3, x31_34], r23.2))) (
  some (some 0, [], H)) := by kernel_rfl
theorem slices_EqualFunc___impl_Mail___impl_Mail_impl_Mail_impl_Mail__eq (a0 a1 a2 : V) (H : VH) : cv id_slices_EqualFunc___impl_Mail___impl_Mail_impl_Mail_impl_Mail_ [a0, a1, a2] H =
  (vLenVV a0).bind fun x11_2 =>
  (vLenVV a1).bind fun x13_4 =>
  (vBinV (.int .i64) .neq x11_2 x13_4).bind fun x14_5 =>
  ifVV x14_5 (
  some ((.bool false), H)) (
  (vLenVV (strip a0)).bind fun x16_8 =>
  (lpW' slices_EqualFunc___impl_Mail___impl_Mail_impl_Mail_impl_Mail__l4 [(strip a1), a2, (strip a0), x16_8, (.int .i64 0)] H).bind fun r36 =>
  inN r36.1 [
  gotV 0 r36.2.1 fun v37 =>
  some ((.bool true), r36.2.2),
  gotV 1 r36.2.1 fun v39 =>
  some ((v39 0), r36.2.2)]) := (callV_eq vb _ _ _ rfl).trans (by kernel_rfl)

/-! loop.example/mailwire/laws.eqSession : kind 1, moves [] -/
theorem laws_eqSession_eq (a0 a1 : V) (H : VH) : cv id_laws_eqSession [a0, a1] H =
  (aggNV 6 a0).bind fun c1 =>
  (aggNV 6 a1).bind fun c3 =>
  (vBinV (.int .i64) .neq (strip (c1.getD 0 .nilp)) (strip (c3.getD 0 .nilp))).bind fun x9_9 =>
  ifVV x9_9 (
  some ((.bool false), H)) (
  (vBinV .str .neq (strip (c1.getD 1 .nilp)) (strip (c3.getD 1 .nilp))).bind fun x14_15 =>
  ifVV x14_15 (
  some ((.bool false), H)) (
  (qc id_laws_eqMail [(frz H (.agg [(strip (c1.getD 2 .nilp)), (strip (c1.getD 3 .nilp)), (strip (c1.getD 4 .nilp))])), (frz H (.agg [(strip (c3.getD 2 .nilp)), (strip (c3.getD 3 .nilp)), (strip (c3.getD 4 .nilp))]))]).bind fun x19_21 =>
  (vUnV .not x19_21).bind fun x20_22 =>
  ifVV x20_22 (
  some ((.bool false), H)) (
  (qc id_laws_eqMailS [(frz H (strip (c1.getD 5 .nilp))), (frz H (strip (c3.getD 5 .nilp)))]).bind fun x25_28 =>
  (vUnV .not x25_28).bind fun x26_29 =>
  ifVV x26_29 (
  some ((.bool false), H)) (
  some ((.bool true), H))))) := (callV_eq vb _ _ _ rfl).trans (by kernel_rfl)

/-! loop.example/mailwire/laws.eqMailS : kind 1, moves [] -/
noncomputable def laws_eqMailS_l4 : List V → VH → Option (Option Nat × List V × VH) := roundV (vb.ctx cv lpW') (vb.b.ann 35) (vb.takes 35) ⟨⟨[0, 1, 5], [], []⟩, [(.exit 0, ⟨[], [], []⟩), (.ret, ⟨[4], [], []⟩)]⟩ (loopIn Try.f35 4)
theorem laws_eqMailS_l4_eq (v0 v1 v2 : V) (H : VH) : laws_eqMailS_l4 [v0, v1, v2] H =
  (vLenVV v0).bind fun x13_10 =>
  (vBinV (.int .i64) .lss v2 x13_10).bind fun x14_11 =>
  ifVV x14_11 (
  (vIdxV 3 (strip v0) (strip v2)).bind fun x19_14 =>
  (ldO globB false true 3 x19_14 H).bind fun r16 =>
  (vIdxV 3 v1 (strip (strip v2))).bind fun x23_19 =>
  (ldO globB false true 3 x23_19 r16.2).bind fun r21 =>
  (qc id_laws_eqMail [(frz r21.2 r16.1), (frz r21.2 r21.1)]).bind fun x25_22 =>
  (vUnV .not x25_22).bind fun x26_23 =>
  ifVV x26_23 (
  some (some 1, [(.bool false)], r21.2)) (
  (vBinV (.int .i64) .add (strip (strip (strip v2))) (.int .i64 1)).bind fun x16_26 =>
  some (none, [(strip (strip v0)), (strip v1), x16_26], r21.2))) (
  some (some 0, [], H)) := by kernel_rfl
theorem laws_eqMailS_eq (a0 a1 : V) (H : VH) : cv id_laws_eqMailS [a0, a1] H =
  (vLenVV a0).bind fun x7_2 =>
  (vLenVV a1).bind fun x9_4 =>
  (vBinV (.int .i64) .neq x7_2 x9_4).bind fun x10_5 =>
  ifVV x10_5 (
  some ((.bool false), H)) (
  (lpW' laws_eqMailS_l4 [(strip a0), (strip a1), (.int .i64 0)] H).bind fun r28 =>
  inN r28.1 [
  gotV 0 r28.2.1 fun v29 =>
  some ((.bool true), r28.2.2),
  gotV 1 r28.2.1 fun v31 =>
  some ((v31 0), r28.2.2)]) := (callV_eq vb _ _ _ rfl).trans (by kernel_rfl)

/-! loop.example/mailwire/laws.FnExactBoxesSame : kind 1, moves [] -/
theorem laws_FnExactBoxesSame_eq (a0 a1 : V) (H : VH) : cv id_laws_FnExactBoxesSame [a0, a1] H =
  (qc id_laws_szBoxS [(frz H a0), (frz H (.int .i64 1048576))]).bind fun x12_4 =>
  (vBinV (.int .i64) .lss x12_4 (.int .i64 0)).bind fun x14_7 =>
  ifVV x14_7 (
  some ((.bool true), H)) (
  (qc id_laws_szBoxS [(frz H a1), (frz H (strip x12_4))]).bind fun x17_11 =>
  (vBinV (.int .i64) .lss x17_11 (.int .i64 0)).bind fun x19_14 =>
  ifVV x19_14 (
  some ((.bool true), H)) (
  (pc id_laws_toBoxS [(frz H (strip a0))]).bind fun x21_17 =>
  (pc id_laws_toBoxS [(frz H (strip a1))]).bind fun x23_19 =>
  (qc id_spec_BoxesSame [(frz H x21_17), (frz H x23_19)]).bind fun x24_20 =>
  (pc id_laws_toBoxS [(frz H (strip (strip a0)))]).bind fun x26_23 =>
  (pc id_laws_toBoxS [(frz H (strip (strip a1)))]).bind fun x28_26 =>
  (qc id_impl_BoxesSame [(frz H x26_23), (frz H x28_26)]).bind fun x31_30 =>
  (vBinV .bool .neq x31_30 x24_20).bind fun x34_34 =>
  ifVV x34_34 (
  some ((.bool false), H)) (
  (pc id_laws_toBoxS [(frz H (strip (strip (strip a0))))]).bind fun x37_38 =>
  (qc id_laws_eqBoxS [(frz H (strip x26_23)), (frz H x37_38)]).bind fun x38_39 =>
  (vUnV .not x38_39).bind fun x39_40 =>
  ifVV x39_40 (
  some ((.bool false), H)) (
  (pc id_laws_toBoxS [(frz H (strip (strip (strip a1))))]).bind fun x42_44 =>
  (qc id_laws_eqBoxS [(frz H (strip x28_26)), (frz H x42_44)]).bind fun x43_45 =>
  (vUnV .not x43_45).bind fun x44_46 =>
  ifVV x44_46 (
  some ((.bool false), H)) (
  some ((.bool true), H)))))) := (callV_eq vb _ _ _ rfl).trans (by kernel_rfl)

/-! loop.example/mailwire/laws.szBoxS : kind 1, moves [] -/
noncomputable def laws_szBoxS_l5 : List V → VH → Option (Option Nat × List V × VH) := roundV (vb.ctx cv lpW') (vb.b.ann 20) (vb.takes 20) ⟨⟨[0, 1, 5], [], []⟩, [(.exit 0, ⟨[1], [], []⟩), (.ret, ⟨[4], [], []⟩)]⟩ (loopIn Try.f20 5)
theorem laws_szBoxS_l5_eq (v0 v1 v2 : V) (H : VH) : laws_szBoxS_l5 [v0, v1, v2] H =
  (vLenVV v0).bind fun x14_12 =>
  (vBinV (.int .i64) .lss v2 x14_12).bind fun x15_13 =>
  ifVV x15_13 (
  (vIdxV 2 (strip v0) (strip v2)).bind fun x20_16 =>
  (ldO globB false true 2 x20_16 H).bind fun r18 =>
  (qc id_laws_szBox [(frz r18.2 r18.1), (frz r18.2 v1)]).bind fun x23_20 =>
  (vBinV (.int .i64) .lss x23_20 (.int .i64 0)).bind fun x25_23 =>
  ifVV x25_23 (
  some (some 1, [(.int .i64 (-1))], r18.2)) (
  (vBinV (.int .i64) .add (strip (strip v2)) (.int .i64 1)).bind fun x17_26 =>
  some (none, [(strip (strip v0)), (strip x23_20), x17_26], r18.2))) (
  some (some 0, [v1], H)) := by kernel_rfl
theorem laws_szBoxS_eq (a0 a1 : V) (H : VH) : cv id_laws_szBoxS [a0, a1] H =
  (vLenVV a0).bind fun x8_3 =>
  (vBinV (.int .i64) .sub a1 x8_3).bind fun x9_4 =>
  (vBinV (.int .i64) .lss x9_4 (.int .i64 0)).bind fun x11_7 =>
  ifVV x11_7 (
  some ((.int .i64 (-1)), H)) (
  (lpW' laws_szBoxS_l5 [(strip a0), (strip x9_4), (.int .i64 0)] H).bind fun r28 =>
  inN r28.1 [
  gotV 1 r28.2.1 fun v29 =>
  some ((v29 0), r28.2.2),
  gotV 1 r28.2.1 fun v32 =>
  some ((v32 0), r28.2.2)]) := (callV_eq vb _ _ _ rfl).trans (by kernel_rfl)

/-! loop.example/mailwire/laws.szBox : kind 1, moves [] -/
theorem laws_szBox_eq (a0 a1 : V) (H : VH) : cv id_laws_szBox [a0, a1] H =
  (aggNV 2 a0).bind fun c1 =>
  (vLenSV (strip (c1.getD 0 .nilp))).bind fun x8_6 =>
  (vBinV (.int .i64) .sub a1 x8_6).bind fun x9_7 =>
  (vBinV (.int .i64) .lss x9_7 (.int .i64 0)).bind fun x11_10 =>
  ifVV x11_10 (
  some ((.int .i64 (-1)), H)) (
  (qc id_laws_szMailS [(frz H (strip (c1.getD 1 .nilp))), (frz H (strip x9_7))]).bind fun x15_15 =>
  (vBinV (.int .i64) .lss x15_15 (.int .i64 0)).bind fun x17_18 =>
  ifVV x17_18 (
  some ((.int .i64 (-1)), H)) (
  some ((strip x15_15), H))) := (callV_eq vb _ _ _ rfl).trans (by kernel_rfl)

/-! loop.example/mailwire/laws.toBoxS : kind 2, moves [] -/
theorem laws_toBoxS_eq (a0 : V) (H : VH) : cv id_laws_toBoxS [a0] H =
  (vLenVV a0).bind fun x6_2 =>
  none := (callV_eq vb _ _ _ rfl).trans (by kernel_rfl)

/-! loop.example/mailwire/laws.toBox : kind 2, moves [] -/
theorem laws_toBox_eq (a0 : V) (H : VH) : cv id_laws_toBox [a0] H =
  (aggNV 2 a0).bind fun c1 =>
  (vOneV (strip (c1.getD 0 .nilp))).bind fun y8 =>
  (pc id_laws_toMailS [(frz H (strip (c1.getD 1 .nilp)))]).bind fun x9_11 =>
  (vOneV x9_11).bind fun y14 =>
  some ((.agg [y8, y14]), H) := (callV_eq vb _ _ _ rfl).trans (by kernel_rfl)

/-! loop.example/mailwire/spec.BoxesSame : kind 1, moves [] -/
noncomputable def spec_BoxesSame_l9 : List V → VH → Option (Option Nat × List V × VH) := roundV (vb.ctx cv lpW') (vb.b.ann 21) (vb.takes 21) ⟨⟨[0, 1, 5, 6], [], []⟩, [(.exit 2, ⟨[0, 1, 5], [], []⟩), (.ret, ⟨[4], [], []⟩)]⟩ (loopIn Try.f21 9)
noncomputable def spec_BoxesSame_l4 : List V → VH → Option (Option Nat × List V × VH) := roundV (vb.ctx cv lpW') (vb.b.ann 21) (vb.takes 21) ⟨⟨[0, 1, 5], [], []⟩, [(.exit 0, ⟨[], [], []⟩), (.ret, ⟨[4], [], []⟩)]⟩ (loopIn Try.f21 4)
theorem spec_BoxesSame_l9_eq (v0 v1 v2 v3 : V) (H : VH) : spec_BoxesSame_l9 [v0, v1, v2, v3] H =
  (vIdxV 2 v0 v2).bind fun x47_52 =>
  (vOffV x47_52 1).bind fun x48_53 =>
  (ldO globB false false 1 x48_53 H).bind fun r55 =>
  (vLenVV r55.1).bind fun x50_56 =>
  (vBinV (.int .i64) .lss v3 x50_56).bind fun x51_57 =>
  ifVV x51_57 (
  (vIdxV 2 (strip v0) (strip v2)).bind fun x56_60 =>
  (vOffV x56_60 1).bind fun x57_61 =>
  (ldO globB false false 1 x57_61 r55.2).bind fun r63 =>
  (vIdxV 3 r63.1 (strip v3)).bind fun x60_65 =>
  (ldO globB false true 3 x60_65 r63.2).bind fun r67 =>
  (vIdxV 2 v1 (strip (strip v2))).bind fun x64_70 =>
  (vOffV x64_70 1).bind fun x65_71 =>
  (ldO globB false false 1 x65_71 r67.2).bind fun r73 =>
  (vIdxV 3 r73.1 (strip (strip v3))).bind fun x68_75 =>
  (ldO globB false true 3 x68_75 r73.2).bind fun r77 =>
  (qc id_spec_MailSame [(frz r77.2 r67.1), (frz r77.2 r77.1)]).bind fun x70_78 =>
  (vUnV .not x70_78).bind fun x71_79 =>
  ifVV x71_79 (
  some (some 1, [(.bool false)], r77.2)) (
  (vBinV (.int .i64) .add (strip (strip (strip v3))) (.int .i64 1)).bind fun x53_82 =>
  some (none, [(strip (strip v0)), (strip v1), (strip (strip (strip v2))), x53_82], r77.2))) (
  some (some 0, [(strip v0), v1, (strip v2)], r55.2)) := by kernel_rfl
theorem spec_BoxesSame_l4_eq (v0 v1 v2 : V) (H : VH) : spec_BoxesSame_l4 [v0, v1, v2] H =
  (vLenVV v0).bind fun x14_10 =>
  (vBinV (.int .i64) .lss v2 x14_10).bind fun x15_11 =>
  ifVV x15_11 (
  (id (
  (id (
  (vIdxV 2 (strip v0) (strip v2)).bind fun x20_14 =>
  (vOffV x20_14 0).bind fun x21_15 =>
  (ldO globB false false 1 x21_15 H).bind fun r17 =>
  (vIdxV 2 v1 (strip (strip v2))).bind fun x25_20 =>
  (vOffV x25_20 0).bind fun x26_21 =>
  (ldO globB false false 1 x26_21 r17.2).bind fun r23 =>
  (vBinV .str .neq r17.1 r23.1).bind fun x28_24 =>
  ifVV x28_24 (
  some (0, [(.bool false)], r23.2)) (
  (vIdxV 2 (strip (strip v0)) (strip (strip (strip v2)))).bind fun x32_30 =>
  (vOffV x32_30 1).bind fun x33_31 =>
  (ldO globB false false 1 x33_31 r23.2).bind fun r33 =>
  (vLenVV r33.1).bind fun x35_34 =>
  (vIdxV 2 (strip v1) (strip (strip (strip (strip v2))))).bind fun x38_37 =>
  (vOffV x38_37 1).bind fun x39_38 =>
  (ldO globB false false 1 x39_38 r33.2).bind fun r40 =>
  (vLenVV r40.1).bind fun x41_41 =>
  (vBinV (.int .i64) .neq x35_34 x41_41).bind fun x42_42 =>
  ifVV x42_42 (
  some (0, [(.bool false)], r40.2)) (
  some (1, [(strip (strip (strip v0))), (strip (strip v1)), (strip (strip (strip (strip (strip v2)))))], r40.2))) : Option (Nat × List V × VH))).bind fun r45 =>
  inN r45.1 [
  gotV 1 r45.2.1 fun v46 =>
  some (0, [(v46 0)], r45.2.2),
  gotV 3 r45.2.1 fun v47 =>
  (lpW' spec_BoxesSame_l9 [(v47 0), (v47 1), (v47 2), (.int .i64 0)] r45.2.2).bind fun r84 =>
  inN r84.1 [
  gotV 3 r84.2.1 fun v85 =>
  some (1, [(v85 0), (v85 1), (v85 2)], r84.2.2),
  gotV 1 r84.2.1 fun v86 =>
  some (0, [(v86 0)], r84.2.2)]] : Option (Nat × List V × VH))).bind fun r87 =>
  inN r87.1 [
  gotV 1 r87.2.1 fun v88 =>
  some (some 1, [(v88 0)], r87.2.2),
  gotV 3 r87.2.1 fun v89 =>
  (vBinV (.int .i64) .add (v89 2) (.int .i64 1)).bind fun x17_91 =>
  some (none, [(v89 0), (v89 1), x17_91], r87.2.2)]) (
  some (some 0, [], H)) := by kernel_rfl
theorem spec_BoxesSame_eq (a0 a1 : V) (H : VH) : cv id_spec_BoxesSame [a0, a1] H =
  (vLenVV a0).bind fun x8_2 =>
  (vLenVV a1).bind fun x10_4 =>
  (vBinV (.int .i64) .neq x8_2 x10_4).bind fun x11_5 =>
  ifVV x11_5 (
  some ((.bool false), H)) (
  (lpW' spec_BoxesSame_l4 [(strip a0), (strip a1), (.int .i64 0)] H).bind fun r93 =>
  inN r93.1 [
  gotV 0 r93.2.1 fun v94 =>
  some ((.bool true), r93.2.2),
  gotV 1 r93.2.1 fun v96 =>
  some ((v96 0), r93.2.2)]) := (callV_eq vb _ _ _ rfl).trans (by kernel_rfl)

/-! loop.example/mailwire/impl.BoxesSame : kind 1, moves [] -/
theorem impl_BoxesSame_eq (a0 a1 : V) (H : VH) : cv id_impl_BoxesSame [a0, a1] H =
  (qc id_slices_EqualFunc___impl_Box___impl_Box_impl_Box_impl_Box_ [(frz H a0), (frz H a1), (frz H (.fn id_impl_BoxesSame_1 []))]).bind fun x7_3 =>
  some (x7_3, H) := (callV_eq vb _ _ _ rfl).trans (by kernel_rfl)

/-! slices.EqualFunc[[]loop.example/mailwire/impl.Box,[]loop.example/mailwire/impl.Box,loop.example/mailwire/impl.Box,loop.example/mailwire/impl.Box] : kind 1, moves [] -/
noncomputable def slices_EqualFunc___impl_Box___impl_Box_impl_Box_impl_Box__l4 : List V → VH → Option (Option Nat × List V × VH) := roundV (vb.ctx cv lpW') (vb.b.ann 38) (vb.takes 38) ⟨⟨[1, 2, 15, 16, 17], [], []⟩, [(.exit 0, ⟨[], [], []⟩), (.ret, ⟨[6], [], []⟩)]⟩ (loopIn Try.f38 4)
theorem slices_EqualFunc___impl_Box___impl_Box_impl_Box_impl_Box__l4_eq (v0 v1 v2 v3 v4 : V) (H : VH) : slices_EqualFunc___impl_Box___impl_Box_impl_Box_impl_Box__l4 [v0, v1, v2, v3, v4] H =
  (vBinV (.int .i64) .lss v4 v3).bind fun x18_10 =>
  ifVV x18_10 (
  (vIdxV 2 v2 (strip v4)).bind fun x20_12 =>
  (ldO globB false true 2 x20_12 H).bind fun r14 =>
  (aggNV 2 r14.1).bind fun c18 =>
  (vIdxV 2 v0 v4).bind fun x24_21 =>
  (ldO globB false true 2 x24_21 r14.2).bind fun r23 =>
  (aggNV 2 r23.1).bind fun c26 =>
  (calleeV v1).bind fun p31 =>
  (qc p31.1 ((([(.agg [(strip (c18.getD 0 .nilp)), (strip (c18.getD 1 .nilp))]), (.agg [(strip (c26.getD 0 .nilp)), (strip (c26.getD 1 .nilp))])] : List V) ++ p31.2).map (frz r23.2))).bind fun x29_30 =>
  (vUnV .not x29_30).bind fun x30_32 =>
  ifVV x30_32 (
  some (some 1, [(.bool false)], r23.2)) (
  (vBinV (.int .i64) .add (strip v4) (.int .i64 1)).bind fun x31_34 =>
  some (none, [(strip v0), (strip v1), v2, v3, x31_34], r23.2))) (
  some (some 0, [], H)) := by kernel_rfl
theorem slices_EqualFunc___impl_Box___impl_Box_impl_Box_impl_Box__eq (a0 a1 a2 : V) (H : VH) : cv id_slices_EqualFunc___impl_Box___impl_Box_impl_Box_impl_Box_ [a0, a1, a2] H =
  (vLenVV a0).bind fun x11_2 =>
  (vLenVV a1).bind fun x13_4 =>
  (vBinV (.int .i64) .neq x11_2 x13_4).bind fun x14_5 =>
  ifVV x14_5 (
  some ((.bool false), H)) (
  (vLenVV (strip a0)).bind fun x16_8 =>
  (lpW' slices_EqualFunc___impl_Box___impl_Box_impl_Box_impl_Box__l4 [(strip a1), a2, (strip a0), x16_8, (.int .i64 0)] H).bind fun r36 =>
  inN r36.1 [
  gotV 0 r36.2.1 fun v37 =>
  some ((.bool true), r36.2.2),
  gotV 1 r36.2.1 fun v39 =>
  some ((v39 0), r36.2.2)]) := (callV_eq vb _ _ _ rfl).trans (by kernel_rfl)

/-! loop.example/mailwire/impl.BoxesSame$1 : kind 1, moves [] -/
theorem impl_BoxesSame_1_eq (a0 a1 : V) (H : VH) : cv id_impl_BoxesSame_1 [a0, a1] H =
  (aggNV 2 a0).bind fun c1 =>
  (aggNV 2 a1).bind fun c3 =>
  (vBinV .str .eql (strip (c1.getD 0 .nilp)) (strip (c3.getD 0 .nilp))).bind fun x9_9 =>
  ifVV x9_9 (
  (qc id_slices_EqualFunc___impl_Mail___impl_Mail_impl_Mail_impl_Mail_ [(frz H (strip (c1.getD 1 .nilp))), (frz H (strip (c3.getD 1 .nilp))), (frz H (.fn id_impl_MailSame []))]).bind fun x15_15 =>
  some (x15_15, H)) (
  some ((.bool false), H)) := (callV_eq vb _ _ _ rfl).trans (by kernel_rfl)

/-! loop.example/mailwire/laws.eqBoxS : kind 1, moves [] -/
noncomputable def laws_eqBoxS_l4 : List V → VH → Option (Option Nat × List V × VH) := roundV (vb.ctx cv lpW') (vb.b.ann 24) (vb.takes 24) ⟨⟨[0, 1, 5], [], []⟩, [(.exit 0, ⟨[], [], []⟩), (.ret, ⟨[4], [], []⟩)]⟩ (loopIn Try.f24 4)
theorem laws_eqBoxS_l4_eq (v0 v1 v2 : V) (H : VH) : laws_eqBoxS_l4 [v0, v1, v2] H =
  (vLenVV v0).bind fun x13_10 =>
  (vBinV (.int .i64) .lss v2 x13_10).bind fun x14_11 =>
  ifVV x14_11 (
  (vIdxV 2 (strip v0) (strip v2)).bind fun x19_14 =>
  (ldO globB false true 2 x19_14 H).bind fun r16 =>
  (vIdxV 2 v1 (strip (strip v2))).bind fun x23_19 =>
  (ldO globB false true 2 x23_19 r16.2).bind fun r21 =>
  (qc id_laws_eqBox [(frz r21.2 r16.1), (frz r21.2 r21.1)]).bind fun x25_22 =>
  (vUnV .not x25_22).bind fun x26_23 =>
  ifVV x26_23 (
  some (some 1, [(.bool false)], r21.2)) (
  (vBinV (.int .i64) .add (strip (strip (strip v2))) (.int .i64 1)).bind fun x16_26 =>
  some (none, [(strip (strip v0)), (strip v1), x16_26], r21.2))) (
  some (some 0, [], H)) := by kernel_rfl
theorem laws_eqBoxS_eq (a0 a1 : V) (H : VH) : cv id_laws_eqBoxS [a0, a1] H =
  (vLenVV a0).bind fun x7_2 =>
  (vLenVV a1).bind fun x9_4 =>
  (vBinV (.int .i64) .neq x7_2 x9_4).bind fun x10_5 =>
  ifVV x10_5 (
  some ((.bool false), H)) (
  (lpW' laws_eqBoxS_l4 [(strip a0), (strip a1), (.int .i64 0)] H).bind fun r28 =>
  inN r28.1 [
  gotV 0 r28.2.1 fun v29 =>
  some ((.bool true), r28.2.2),
  gotV 1 r28.2.1 fun v31 =>
  some ((v31 0), r28.2.2)]) := (callV_eq vb _ _ _ rfl).trans (by kernel_rfl)

/-! loop.example/mailwire/laws.eqBox : kind 1, moves [] -/
theorem laws_eqBox_eq (a0 a1 : V) (H : VH) : cv id_laws_eqBox [a0, a1] H =
  (aggNV 2 a0).bind fun c1 =>
  (aggNV 2 a1).bind fun c3 =>
  (vBinV .str .neq (strip (c1.getD 0 .nilp)) (strip (c3.getD 0 .nilp))).bind fun x9_9 =>
  ifVV x9_9 (
  some ((.bool false), H)) (
  (qc id_laws_eqMailS [(frz H (strip (c1.getD 1 .nilp))), (frz H (strip (c3.getD 1 .nilp)))]).bind fun x14_15 =>
  (vUnV .not x14_15).bind fun x15_16 =>
  ifVV x15_16 (
  some ((.bool false), H)) (
  some ((.bool true), H))) := (callV_eq vb _ _ _ rfl).trans (by kernel_rfl)

end Go.Proofs.Ytgpfabgnlpdpdaa.Q
