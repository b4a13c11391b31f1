/- What a call of each function comes to. -/
import Derived.Test.YtgpfabgnlpdpdaaExactSessionSameBaseZ
namespace Go.Proofs.Ytgpfabgnlpdpdaa.Q
open Go Go.AM Go.Proofs
set_option linter.unusedVariables false
set_option maxRecDepth 100000
/-! loop.example/mailwire/laws.FnExactSessionSame : kind 1, moves [] -/
theorem laws_FnExactSessionSame_eq (a0 a1 : V) (H : VH) : cv id_laws_FnExactSessionSame [a0, a1] H =
  (aggNV 6 a0).bind fun c1 =>
  (aggNV 6 a1).bind fun c3 =>
  (qc id_laws_szSession [(frz H (.agg [(strip (c1.getD 0 .nilp)), (strip (c1.getD 1 .nilp)), (strip (c1.getD 2 .nilp)), (strip (c1.getD 3 .nilp)), (strip (c1.getD 4 .nilp)), (strip (c1.getD 5 .nilp))])), (frz H (.int .i64 1048576))]).bind fun x12_8 =>
  (vBinV (.int .i64) .lss x12_8 (.int .i64 0)).bind fun x14_11 =>
  ifVV x14_11 (
  some ((.bool true), H)) (
  (qc id_laws_szSession [(frz H (.agg [(strip (c3.getD 0 .nilp)), (strip (c3.getD 1 .nilp)), (strip (c3.getD 2 .nilp)), (strip (c3.getD 3 .nilp)), (strip (c3.getD 4 .nilp)), (strip (c3.getD 5 .nilp))])), (frz H (strip x12_8))]).bind fun x17_15 =>
  (vBinV (.int .i64) .lss x17_15 (.int .i64 0)).bind fun x19_18 =>
  ifVV x19_18 (
  some ((.bool true), H)) (
  (pc id_laws_toSession [(frz H (.agg [(strip (c1.getD 0 .nilp)), (strip (c1.getD 1 .nilp)), (strip (c1.getD 2 .nilp)), (strip (c1.getD 3 .nilp)), (strip (c1.getD 4 .nilp)), (strip (c1.getD 5 .nilp))]))]).bind fun x21_21 =>
  (pc id_laws_toSession [(frz H (.agg [(strip (c3.getD 0 .nilp)), (strip (c3.getD 1 .nilp)), (strip (c3.getD 2 .nilp)), (strip (c3.getD 3 .nilp)), (strip (c3.getD 4 .nilp)), (strip (c3.getD 5 .nilp))]))]).bind fun x23_23 =>
  (qc id_spec_SessionSame [(frz H x21_21), (frz H x23_23)]).bind fun x24_24 =>
  (pc id_laws_toSession [(frz H (.agg [(strip (c1.getD 0 .nilp)), (strip (c1.getD 1 .nilp)), (strip (c1.getD 2 .nilp)), (strip (c1.getD 3 .nilp)), (strip (c1.getD 4 .nilp)), (strip (c1.getD 5 .nilp))]))]).bind fun x26_27 =>
  (aggNV 6 x26_27).bind fun c30 =>
  (pc id_laws_toSession [(frz H (.agg [(strip (c3.getD 0 .nilp)), (strip (c3.getD 1 .nilp)), (strip (c3.getD 2 .nilp)), (strip (c3.getD 3 .nilp)), (strip (c3.getD 4 .nilp)), (strip (c3.getD 5 .nilp))]))]).bind fun x28_32 =>
  (aggNV 6 x28_32).bind fun c35 =>
  (qc id_impl_SessionSame [(frz H (.agg [(strip (c30.getD 0 .nilp)), (strip (c30.getD 1 .nilp)), (strip (c30.getD 2 .nilp)), (strip (c30.getD 3 .nilp)), (strip (c30.getD 4 .nilp)), (strip (c30.getD 5 .nilp))])), (frz H (.agg [(strip (c35.getD 0 .nilp)), (strip (c35.getD 1 .nilp)), (strip (c35.getD 2 .nilp)), (strip (c35.getD 3 .nilp)), (strip (c35.getD 4 .nilp)), (strip (c35.getD 5 .nilp))]))]).bind fun x31_38 =>
  (vBinV .bool .neq x31_38 x24_24).bind fun x34_42 =>
  ifVV x34_42 (
  some ((.bool false), H)) (
  (pc id_laws_toSession [(frz H (.agg [(strip (c1.getD 0 .nilp)), (strip (c1.getD 1 .nilp)), (strip (c1.getD 2 .nilp)), (strip (c1.getD 3 .nilp)), (strip (c1.getD 4 .nilp)), (strip (c1.getD 5 .nilp))]))]).bind fun x37_46 =>
  (qc id_laws_eqSession [(frz H (.agg [(strip (c30.getD 0 .nilp)), (strip (c30.getD 1 .nilp)), (strip (c30.getD 2 .nilp)), (strip (c30.getD 3 .nilp)), (strip (c30.getD 4 .nilp)), (strip (c30.getD 5 .nilp))])), (frz H x37_46)]).bind fun x38_47 =>
  (vUnV .not x38_47).bind fun x39_48 =>
  ifVV x39_48 (
  some ((.bool false), H)) (
  (pc id_laws_toSession [(frz H (.agg [(strip (c3.getD 0 .nilp)), (strip (c3.getD 1 .nilp)), (strip (c3.getD 2 .nilp)), (strip (c3.getD 3 .nilp)), (strip (c3.getD 4 .nilp)), (strip (c3.getD 5 .nilp))]))]).bind fun x42_52 =>
  (qc id_laws_eqSession [(frz H (.agg [(strip (c35.getD 0 .nilp)), (strip (c35.getD 1 .nilp)), (strip (c35.getD 2 .nilp)), (strip (c35.getD 3 .nilp)), (strip (c35.getD 4 .nilp)), (strip (c35.getD 5 .nilp))])), (frz H x42_52)]).bind fun x43_53 =>
  (vUnV .not x43_53).bind fun x44_54 =>
  ifVV x44_54 (
  some ((.bool false), H)) (
  some ((.bool true), H)))))) := (callV_eq vb _ _ _ rfl).trans (by kernel_rfl)

/-! loop.example/mailwire/laws.szSession : kind 1, moves [] -/
theorem laws_szSession_eq (a0 a1 : V) (H : VH) : cv id_laws_szSession [a0, a1] H =
  (aggNV 6 a0).bind fun c1 =>
  (vLenSV (strip (c1.getD 1 .nilp))).bind fun x8_6 =>
  (vBinV (.int .i64) .sub a1 x8_6).bind fun x9_7 =>
  (vBinV (.int .i64) .lss x9_7 (.int .i64 0)).bind fun x11_10 =>
  ifVV x11_10 (
  some ((.int .i64 (-1)), H)) (
  (qc id_laws_szMail [(frz H (.agg [(strip (c1.getD 2 .nilp)), (strip (c1.getD 3 .nilp)), (strip (c1.getD 4 .nilp))])), (frz H (strip x9_7))]).bind fun x15_15 =>
  (vBinV (.int .i64) .lss x15_15 (.int .i64 0)).bind fun x17_18 =>
  ifVV x17_18 (
  some ((.int .i64 (-1)), H)) (
  (qc id_laws_szMailS [(frz H (strip (c1.getD 5 .nilp))), (frz H (strip x15_15))]).bind fun x21_23 =>
  (vBinV (.int .i64) .lss x21_23 (.int .i64 0)).bind fun x23_26 =>
  ifVV x23_26 (
  some ((.int .i64 (-1)), H)) (
  some ((strip x21_23), H)))) := (callV_eq vb _ _ _ rfl).trans (by kernel_rfl)

/-! loop.example/mailwire/laws.szMail : kind 1, moves [] -/
theorem laws_szMail_eq (a0 a1 : V) (H : VH) : cv id_laws_szMail [a0, a1] H =
  (aggNV 3 a0).bind fun c1 =>
  (vLenSV (strip (c1.getD 0 .nilp))).bind fun x8_6 =>
  (vBinV (.int .i64) .sub a1 x8_6).bind fun x9_7 =>
  (vBinV (.int .i64) .lss x9_7 (.int .i64 0)).bind fun x11_10 =>
  ifVV x11_10 (
  some ((.int .i64 (-1)), H)) (
  (qc id_laws_szStringS [(frz H (strip (c1.getD 1 .nilp))), (frz H (strip x9_7))]).bind fun x15_15 =>
  (vBinV (.int .i64) .lss x15_15 (.int .i64 0)).bind fun x17_18 =>
  ifVV x17_18 (
  some ((.int .i64 (-1)), H)) (
  (qc id_laws_szStringS [(frz H (strip (c1.getD 2 .nilp))), (frz H (strip x15_15))]).bind fun x21_23 =>
  (vBinV (.int .i64) .lss x21_23 (.int .i64 0)).bind fun x23_26 =>
  ifVV x23_26 (
  some ((.int .i64 (-1)), H)) (
  some ((strip x21_23), H)))) := (callV_eq vb _ _ _ rfl).trans (by kernel_rfl)

/-! loop.example/mailwire/laws.szStringS : kind 1, moves [] -/
noncomputable def laws_szStringS_l5 : List V → VH → Option (Option Nat × List V × VH) := roundV (vb.ctx cv lpW') (vb.b.ann 27) (vb.takes 27) ⟨⟨[0, 1, 5], [], []⟩, [(.exit 0, ⟨[1], [], []⟩), (.ret, ⟨[4], [], []⟩)]⟩ (loopIn Try.f27 5)
theorem laws_szStringS_l5_eq (v0 v1 v2 : V) (H : VH) : laws_szStringS_l5 [v0, v1, v2] H =
  (vLenVV v0).bind fun x14_12 =>
  (vBinV (.int .i64) .lss v2 x14_12).bind fun x15_13 =>
  ifVV x15_13 (
  (vIdxV 1 (strip v0) (strip v2)).bind fun x21_17 =>
  (ldO globB false false 1 x21_17 H).bind fun r19 =>
  (vLenSV r19.1).bind fun x23_20 =>
  (vBinV (.int .i64) .sub v1 x23_20).bind fun x24_21 =>
  (vBinV (.int .i64) .lss x24_21 (.int .i64 0)).bind fun x26_24 =>
  ifVV x26_24 (
  some (some 1, [(.int .i64 (-1))], r19.2)) (
  (vBinV (.int .i64) .add (strip (strip v2)) (.int .i64 1)).bind fun x17_27 =>
  some (none, [(strip (strip v0)), (strip x24_21), x17_27], r19.2))) (
  some (some 0, [v1], H)) := by kernel_rfl
theorem laws_szStringS_eq (a0 a1 : V) (H : VH) : cv id_laws_szStringS [a0, a1] H =
  (vLenVV a0).bind fun x8_3 =>
  (vBinV (.int .i64) .sub a1 x8_3).bind fun x9_4 =>
  (vBinV (.int .i64) .lss x9_4 (.int .i64 0)).bind fun x11_7 =>
  ifVV x11_7 (
  some ((.int .i64 (-1)), H)) (
  (lpW' laws_szStringS_l5 [(strip a0), (strip x9_4), (.int .i64 0)] H).bind fun r29 =>
  inN r29.1 [
  gotV 1 r29.2.1 fun v30 =>
  some ((v30 0), r29.2.2),
  gotV 1 r29.2.1 fun v33 =>
  some ((v33 0), r29.2.2)]) := (callV_eq vb _ _ _ rfl).trans (by kernel_rfl)

/-! loop.example/mailwire/laws.szMailS : kind 1, moves [] -/
noncomputable def laws_szMailS_l5 : List V → VH → Option (Option Nat × List V × VH) := roundV (vb.ctx cv lpW') (vb.b.ann 32) (vb.takes 32) ⟨⟨[0, 1, 5], [], []⟩, [(.exit 0, ⟨[1], [], []⟩), (.ret, ⟨[4], [], []⟩)]⟩ (loopIn Try.f32 5)
theorem laws_szMailS_l5_eq (v0 v1 v2 : V) (H : VH) : laws_szMailS_l5 [v0, v1, v2] H =
  (vLenVV v0).bind fun x14_12 =>
  (vBinV (.int .i64) .lss v2 x14_12).bind fun x15_13 =>
  ifVV x15_13 (
  (vIdxV 3 (strip v0) (strip v2)).bind fun x20_16 =>
  (ldO globB false true 3 x20_16 H).bind fun r18 =>
  (qc id_laws_szMail [(frz r18.2 r18.1), (frz r18.2 v1)]).bind fun x23_20 =>
  (vBinV (.int .i64) .lss x23_20 (.int .i64 0)).bind fun x25_23 =>
  ifVV x25_23 (
  some (some 1, [(.int .i64 (-1))], r18.2)) (
  (vBinV (.int .i64) .add (strip (strip v2)) (.int .i64 1)).bind fun x17_26 =>
  some (none, [(strip (strip v0)), (strip x23_20), x17_26], r18.2))) (
  some (some 0, [v1], H)) := by kernel_rfl
theorem laws_szMailS_eq (a0 a1 : V) (H : VH) : cv id_laws_szMailS [a0, a1] H =
  (vLenVV a0).bind fun x8_3 =>
  (vBinV (.int .i64) .sub a1 x8_3).bind fun x9_4 =>
  (vBinV (.int .i64) .lss x9_4 (.int .i64 0)).bind fun x11_7 =>
  ifVV x11_7 (
  some ((.int .i64 (-1)), H)) (
  (lpW' laws_szMailS_l5 [(strip a0), (strip x9_4), (.int .i64 0)] H).bind fun r28 =>
  inN r28.1 [
  gotV 1 r28.2.1 fun v29 =>
  some ((v29 0), r28.2.2),
  gotV 1 r28.2.1 fun v32 =>
  some ((v32 0), r28.2.2)]) := (callV_eq vb _ _ _ rfl).trans (by kernel_rfl)

/-! loop.example/mailwire/laws.toSession : kind 2, moves [] -/
theorem laws_toSession_eq (a0 : V) (H : VH) : cv id_laws_toSession [a0] H =
  (aggNV 6 a0).bind fun c1 =>
  (vOneV (strip (c1.getD 0 .nilp))).bind fun y8 =>
  (vOneV (strip (c1.getD 1 .nilp))).bind fun y13 =>
  (pc id_laws_toMail [(frz H (.agg [(strip (c1.getD 2 .nilp)), (strip (c1.getD 3 .nilp)), (strip (c1.getD 4 .nilp))]))]).bind fun x12_16 =>
  (aggNV 3 x12_16).bind fun c19 =>
  (pc id_laws_toMailS [(frz H (strip (c1.getD 5 .nilp)))]).bind fun x16_22 =>
  (vOneV x16_22).bind fun y25 =>
  some ((.agg [y8, y13, (c19.getD 0 .nilp), (c19.getD 1 .nilp), (c19.getD 2 .nilp), y25]), H) := (callV_eq vb _ _ _ rfl).trans (by kernel_rfl)

/-! loop.example/mailwire/laws.toMail : kind 2, moves [] -/
theorem laws_toMail_eq (a0 : V) (H : VH) : cv id_laws_toMail [a0] H =
  (aggNV 3 a0).bind fun c1 =>
  (vOneV (strip (c1.getD 0 .nilp))).bind fun y8 =>
  (pc id_laws_toStringS [(frz H (strip (c1.getD 1 .nilp)))]).bind fun x9_11 =>
  (vOneV x9_11).bind fun y14 =>
  (pc id_laws_toStringS [(frz H (strip (c1.getD 2 .nilp)))]).bind fun x13_17 =>
  (vOneV x13_17).bind fun y20 =>
  some ((.agg [y8, y14, y20]), H) := (callV_eq vb _ _ _ rfl).trans (by kernel_rfl)

/-! loop.example/mailwire/laws.toStringS : kind 2, moves [] -/
noncomputable def laws_toStringS_l3 : List V → VH → Option (Option Nat × List V × VH) := roundV (vb.ctx cv lpW') (vb.b.ann 29) (vb.takes 29) ⟨⟨[0, 3, 4], [], []⟩, [(.exit 0, ⟨[3], [], []⟩)]⟩ (loopIn Try.f29 3)
theorem laws_toStringS_l3_eq (v0 v1 v2 : V) (H : VH) : laws_toStringS_l3 [v0, v1, v2] H =
  (vLenVV v0).bind fun x10_8 =>
  (vBinV (.int .i64) .lss v2 x10_8).bind fun x11_9 =>
  ifVV x11_9 (
  (vIdxV 1 (strip v0) (strip (strip v2))).bind fun x18_14 =>
  (ldO globB false false 1 x18_14 H).bind fun r16 =>
  (vIdxV 1 v1 (strip v2)).bind fun x20_17 =>
  (vOneV r16.1).bind fun y19 =>
  (stO x20_17 [y19] r16.2).bind fun H20 =>
  (vBinV (.int .i64) .add (strip (strip (strip v2))) (.int .i64 1)).bind fun x13_22 =>
  some (none, [(strip (strip v0)), (strip v1), x13_22], H20)) (
  some (some 0, [v1], H)) := by kernel_rfl
theorem laws_toStringS_eq (a0 : V) (H : VH) : cv id_laws_toStringS [a0] H =
  (vLenVV a0).bind fun x6_2 =>
  (mkLenV 16 x6_2 x6_2).bind fun x7_3 =>
  (lpW' laws_toStringS_l3 [(strip a0), (.obs H.length 0 x7_3.1 1), (.int .i64 0)] (H ++ [repV x7_3.2 [(.str [])]])).bind fun r24 =>
  inN r24.1 [
  gotV 1 r24.2.1 fun v25 =>
  some ((v25 0), r24.2.2)] := (callV_eq vb _ _ _ rfl).trans (by kernel_rfl)

/-! loop.example/mailwire/laws.toMailS : kind 2, moves [] -/
noncomputable def laws_toMailS_l3 : List V → VH → Option (Option Nat × List V × VH) := roundV (vb.ctx cv lpW') (vb.b.ann 33) (vb.takes 33) ⟨⟨[0, 3, 4], [], []⟩, [(.exit 0, ⟨[3], [], []⟩)]⟩ (loopIn Try.f33 3)
theorem laws_toMailS_l3_eq (v0 v1 v2 : V) (H : VH) : laws_toMailS_l3 [v0, v1, v2] H =
  (vLenVV v0).bind fun x10_8 =>
  (vBinV (.int .i64) .lss v2 x10_8).bind fun x11_9 =>
  ifVV x11_9 (
  (vIdxV 3 (strip v0) (strip (strip v2))).bind fun x18_14 =>
  (ldO globB false true 3 x18_14 H).bind fun r16 =>
  (pc id_laws_toMail [(frz r16.2 r16.1)]).bind fun x20_17 =>
  (vIdxV 3 v1 (strip v2)).bind fun x21_18 =>
  (aggNV 3 x20_17).bind fun c20 =>
  (stO x21_18 [(c20.getD 0 .nilp), (c20.getD 1 .nilp), (c20.getD 2 .nilp)] r16.2).bind fun H21 =>
  (vBinV (.int .i64) .add (strip (strip (strip v2))) (.int .i64 1)).bind fun x13_23 =>
  some (none, [(strip (strip v0)), (strip v1), x13_23], H21)) (
  some (some 0, [v1], H)) := by kernel_rfl
theorem laws_toMailS_eq (a0 : V) (H : VH) : cv id_laws_toMailS [a0] H =
  (vLenVV a0).bind fun x6_2 =>
  (mkLenV 64 x6_2 x6_2).bind fun x7_3 =>
  (lpW' laws_toMailS_l3 [(strip a0), (.obs H.length 0 x7_3.1 3), (.int .i64 0)] (H ++ [repV x7_3.2 [(.str []), (.sl true []), (.sl true [])]])).bind fun r25 =>
  inN r25.1 [
  gotV 1 r25.2.1 fun v26 =>
  some ((v26 0), r25.2.2)] := (callV_eq vb _ _ _ rfl).trans (by kernel_rfl)

/-! loop.example/mailwire/spec.SessionSame : kind 1, moves [] -/
noncomputable def spec_SessionSame_l4 : List V → VH → Option (Option Nat × List V × VH) := roundV (vb.ctx cv lpW') (vb.b.ann 16) (vb.takes 16) ⟨⟨[5], [(2, (2, 0)), (3, (3, 0))], [(2, 6), (3, 6)]⟩, [(.exit 0, ⟨[], [], []⟩), (.ret, ⟨[4], [], []⟩)]⟩ (loopIn Try.f16 4)
theorem spec_SessionSame_l4_eq (v0 v1 v2 v3 v4 v5 v6 v7 v8 v9 v10 v11 v12 : V) (H : VH) : spec_SessionSame_l4 [v0, v1, v2, v3, v4, v5, v6, v7, v8, v9, v10, v11, v12] H =
  (vLenVV (strip v6)).bind fun x38_54 =>
  (vBinV (.int .i64) .lss v0 x38_54).bind fun x39_55 =>
  ifVV x39_55 (
  (vIdxV 3 (strip v6) (strip v0)).bind fun x45_59 =>
  (ldO globB false true 3 x45_59 H).bind fun r61 =>
  (vIdxV 3 (strip v12) (strip (strip v0))).bind fun x50_65 =>
  (ldO globB false true 3 x50_65 r61.2).bind fun r67 =>
  (qc id_spec_MailSame [(frz r67.2 r61.1), (frz r67.2 r67.1)]).bind fun x52_68 =>
  (vUnV .not x52_68).bind fun x53_69 =>
  ifVV x53_69 (
  some (some 1, [(.bool false)], r67.2)) (
  (vBinV (.int .i64) .add (strip (strip (strip v0))) (.int .i64 1)).bind fun x41_72 =>
  some (none, [x41_72, v1, v2, v3, v4, v5, v6, v7, v8, v9, v10, v11, v12], r67.2))) (
  some (some 0, [], H)) := by kernel_rfl
theorem spec_SessionSame_eq (a0 a1 : V) (H : VH) : cv id_spec_SessionSame [a0, a1] H =
  (aggNV 6 a0).bind fun c1 =>
  (aggNV 6 a1).bind fun c3 =>
  (id (
  (vBinV (.int .i64) .neq (strip (c1.getD 0 .nilp)) (strip (c3.getD 0 .nilp))).bind fun x10_9 =>
  ifVV x10_9 (
  some (0, [(.bool false)], H)) (
  (vBinV .str .neq (strip (c1.getD 1 .nilp)) (strip (c3.getD 1 .nilp))).bind fun x16_21 =>
  ifVV x16_21 (
  some (0, [(.bool false)], H)) (
  (qc id_spec_MailSame [(frz H (.agg [(strip (c1.getD 2 .nilp)), (strip (c1.getD 3 .nilp)), (strip (c1.getD 4 .nilp))])), (frz H (.agg [(strip (c3.getD 2 .nilp)), (strip (c3.getD 3 .nilp)), (strip (c3.getD 4 .nilp))]))]).bind fun x23_32 =>
  (vUnV .not x23_32).bind fun x24_33 =>
  ifVV x24_33 (
  some (0, [(.bool false)], H)) (
  (vLenVV (strip (c1.getD 5 .nilp))).bind fun x29_40 =>
  (vLenVV (strip (c3.getD 5 .nilp))).bind fun x32_43 =>
  (vBinV (.int .i64) .neq x29_40 x32_43).bind fun x33_44 =>
  ifVV x33_44 (
  some (0, [(.bool false)], H)) (
  some (1, [(c1.getD 0 .nilp), (c1.getD 1 .nilp), (c1.getD 2 .nilp), (c1.getD 3 .nilp), (c1.getD 4 .nilp), (c1.getD 5 .nilp), (c3.getD 0 .nilp), (c3.getD 1 .nilp), (c3.getD 2 .nilp), (c3.getD 3 .nilp), (c3.getD 4 .nilp), (c3.getD 5 .nilp)], H))))) : Option (Nat × List V × VH))).bind fun r47 =>
  inN r47.1 [
  gotV 1 r47.2.1 fun v48 =>
  some ((v48 0), r47.2.2),
  gotV 12 r47.2.1 fun v49 =>
  (lpW' spec_SessionSame_l4 [(.int .i64 0), (v49 0), (v49 1), (v49 2), (v49 3), (v49 4), (v49 5), (v49 6), (v49 7), (v49 8), (v49 9), (v49 10), (v49 11)] r47.2.2).bind fun r74 =>
  inN r74.1 [
  gotV 0 r74.2.1 fun v75 =>
  some ((.bool true), r74.2.2),
  gotV 1 r74.2.1 fun v77 =>
  some ((v77 0), r74.2.2)]] := (callV_eq vb _ _ _ rfl).trans (by kernel_rfl)

/-! loop.example/mailwire/spec.MailSame : kind 1, moves [] -/
theorem spec_MailSame_eq (a0 a1 : V) (H : VH) : cv id_spec_MailSame [a0, a1] H =
  (aggNV 3 a0).bind fun c1 =>
  (aggNV 3 a1).bind fun c3 =>
  (vBinV .str .eql (strip (c1.getD 0 .nilp)) (strip (c3.getD 0 .nilp))).bind fun x9_9 =>
  ifVV x9_9 (
  (qc id_spec_l10Texts [(frz H (strip (c1.getD 1 .nilp))), (frz H (strip (c3.getD 1 .nilp)))]).bind fun x15_15 =>
  ifVV x15_15 (
  (qc id_spec_l10Texts [(frz H (strip (c1.getD 2 .nilp))), (frz H (strip (c3.getD 2 .nilp)))]).bind fun x22_22 =>
  some (x22_22, H)) (
  some ((.bool false), H))) (
  some ((.bool false), H)) := (callV_eq vb _ _ _ rfl).trans (by kernel_rfl)

/-! loop.example/mailwire/spec.l10Texts : kind 1, moves [] -/
noncomputable def spec_l10Texts_l4 : List V → VH → Option (Option Nat × List V × VH) := roundV (vb.ctx cv lpW') (vb.b.ann 28) (vb.takes 28) ⟨⟨[0, 1, 5], [], []⟩, [(.exit 0, ⟨[], [], []⟩), (.ret, ⟨[4], [], []⟩)]⟩ (loopIn Try.f28 4)
theorem spec_l10Texts_l4_eq (v0 v1 v2 : V) (H : VH) : spec_l10Texts_l4 [v0, v1, v2] H =
  (vLenVV v0).bind fun x13_10 =>
  (vBinV (.int .i64) .lss v2 x13_10).bind fun x14_11 =>
  ifVV x14_11 (
  (vIdxV 1 (strip v0) (strip v2)).bind fun x19_14 =>
  (ldO globB false false 1 x19_14 H).bind fun r16 =>
  (vIdxV 1 v1 (strip (strip v2))).bind fun x23_19 =>
  (ldO globB false false 1 x23_19 r16.2).bind fun r21 =>
  (vBinV .str .neq r16.1 r21.1).bind fun x25_22 =>
  ifVV x25_22 (
  some (some 1, [(.bool false)], r21.2)) (
  (vBinV (.int .i64) .add (strip (strip (strip v2))) (.int .i64 1)).bind fun x16_25 =>
  some (none, [(strip (strip v0)), (strip v1), x16_25], r21.2))) (
  some (some 0, [], H)) := by kernel_rfl
theorem spec_l10Texts_eq (a0 a1 : V) (H : VH) : cv id_spec_l10Texts [a0, a1] H =
  (vLenVV a0).bind fun x7_2 =>
  (vLenVV a1).bind fun x9_4 =>
  (vBinV (.int .i64) .neq x7_2 x9_4).bind fun x10_5 =>
  ifVV x10_5 (
  some ((.bool false), H)) (
  (lpW' spec_l10Texts_l4 [(strip a0), (strip a1), (.int .i64 0)] H).bind fun r27 =>
  inN r27.1 [
  gotV 0 r27.2.1 fun v28 =>
  some ((.bool true), r27.2.2),
  gotV 1 r27.2.1 fun v30 =>
  some ((v30 0), r27.2.2)]) := (callV_eq vb _ _ _ rfl).trans (by kernel_rfl)

/-! loop.example/mailwire/impl.SessionSame : kind 1, moves [] -/
theorem impl_SessionSame_eq (a0 a1 : V) (H : VH) : cv id_impl_SessionSame [a0, a1] H =
  (aggNV 6 a0).bind fun c1 =>
  (aggNV 6 a1).bind fun c3 =>
  (vBinV (.int .i64) .eql (strip (c1.getD 0 .nilp)) (strip (c3.getD 0 .nilp))).bind fun x9_9 =>
  ifVV x9_9 (
  (vBinV .str .eql (strip (c1.getD 1 .nilp)) (strip (c3.getD 1 .nilp))).bind fun x15_15 =>
  ifVV x15_15 (
  (qc id_impl_MailSame [(frz H (.agg [(strip (c1.getD 2 .nilp)), (strip (c1.getD 3 .nilp)), (strip (c1.getD 4 .nilp))])), (frz H (.agg [(strip (c3.getD 2 .nilp)), (strip (c3.getD 3 .nilp)), (strip (c3.getD 4 .nilp))]))]).bind fun x22_22 =>
  ifVV x22_22 (
  (qc id_slices_EqualFunc___impl_Mail___impl_Mail_impl_Mail_impl_Mail_ [(frz H (strip (c1.getD 5 .nilp))), (frz H (strip (c3.getD 5 .nilp))), (frz H (.fn id_impl_MailSame []))]).bind fun x29_29 =>
  some (x29_29, H)) (
  some ((.bool false), H))) (
  some ((.bool false), H))) (
  some ((.bool false), H)) := (callV_eq vb _ _ _ rfl).trans (by kernel_rfl)

/-! loop.example/mailwire/impl.MailSame : kind 1, moves [] -/
theorem impl_MailSame_eq (a0 a1 : V) (H : VH) : cv id_impl_MailSame [a0, a1] H =
  (aggNV 3 a0).bind fun c1 =>
  (aggNV 3 a1).bind fun c3 =>
  (vBinV .str .eql (strip (c1.getD 0 .nilp)) (strip (c3.getD 0 .nilp))).bind fun x9_9 =>
  ifVV x9_9 (
  (qc id_slices_Equal___string_string_ [(frz H (strip (c1.getD 1 .nilp))), (frz H (strip (c3.getD 1 .nilp)))]).bind fun x15_15 =>
  ifVV x15_15 (
  (qc id_slices_Equal___string_string_ [(frz H (strip (c1.getD 2 .nilp))), (frz H (strip (c3.getD 2 .nilp)))]).bind fun x22_22 =>
  some (x22_22, H)) (
  some ((.bool false), H))) (
  some ((.bool false), H)) := (callV_eq vb _ _ _ rfl).trans (by kernel_rfl)

/-! slices.Equal[[]string,string] : kind 1, moves [] -/
noncomputable def slices_Equal___string_string__l4 : List V → VH → Option (Option Nat × List V × VH) := roundV (vb.ctx cv lpW') (vb.b.ann 30) (vb.takes 30) ⟨⟨[0, 1, 12, 13], [], []⟩, [(.exit 0, ⟨[], [], []⟩), (.ret, ⟨[4], [], []⟩)]⟩ (loopIn Try.f30 4)
theorem slices_Equal___string_string__l4_eq (v0 v1 v2 v3 : V) (H : VH) : slices_Equal___string_string__l4 [v0, v1, v2, v3] H =
  (vBinV (.int .i64) .lss v3 v2).bind fun x14_10 =>
  ifVV x14_10 (
  (vIdxV 1 v0 v3).bind fun x18_15 =>
  (ldO globB false false 1 x18_15 H).bind fun r17 =>
  (vIdxV 1 v1 (strip v3)).bind fun x22_20 =>
  (ldO globB false false 1 x22_20 r17.2).bind fun r22 =>
  (vBinV .str .neq r17.1 r22.1).bind fun x24_23 =>
  ifVV x24_23 (
  some (some 1, [(.bool false)], r22.2)) (
  (vBinV (.int .i64) .add (strip v3) (.int .i64 1)).bind fun x25_25 =>
  some (none, [(strip v0), (strip v1), v2, x25_25], r22.2))) (
  some (some 0, [], H)) := by kernel_rfl
theorem slices_Equal___string_string__eq (a0 a1 : V) (H : VH) : cv id_slices_Equal___string_string_ [a0, a1] H =
  (vLenVV a0).bind fun x7_2 =>
  (vLenVV a1).bind fun x9_4 =>
  (vBinV (.int .i64) .neq x7_2 x9_4).bind fun x10_5 =>
  ifVV x10_5 (
  some ((.bool false), H)) (
  (vLenVV (strip a0)).bind fun x12_8 =>
  (lpW' slices_Equal___string_string__l4 [(strip (strip a0)), (strip a1), x12_8, (.int .i64 0)] H).bind fun r27 =>
  inN r27.1 [
  gotV 0 r27.2.1 fun v28 =>
  some ((.bool true), r27.2.2),
  gotV 1 r27.2.1 fun v30 =>
  some ((v30 0), r27.2.2)]) := (callV_eq vb _ _ _ rfl).trans (by kernel_rfl)

/-! slices.EqualFunc[[]loop.example/mailwire/impl.Mail,[]loop.example/mailwire/impl.Mail,loop.example/mailwire/impl.Mail,loop.example/mailwire/impl.Mail] : kind 1, moves [] -/
noncomputable def slices_EqualFunc___impl_Mail___impl_Mail_impl_Mail_impl_Mail__l4 : List V → VH → Option (Option Nat × List V × VH) := roundV (vb.ctx cv lpW') (vb.b.ann 34) (vb.takes 34) ⟨⟨[1, 2, 15, 16, 17], [], []⟩, [(.exit 0, ⟨[], [], []⟩), (.ret, ⟨[6], [], []⟩)]⟩ (loopIn Try.f34 4)
theorem slices_EqualFunc___impl_Mail___impl_Mail_impl_Mail_impl_Mail__l4_eq (v0 v1 v2 v3 v4 : V) (H : VH) : slices_EqualFunc___impl_Mail___impl_Mail_impl_Mail_impl_Mail__l4 [v0, v1, v2, v3, v4] H =
  (vBinV (.int .i64) .lss v4 v3).bind fun x18_10 =>
  ifVV x18_10 (
  (vIdxV 3 v2 (strip v4)).bind fun x20_12 =>
  (ldO globB false true 3 x20_12 H).bind fun r14 =>
  (aggNV 3 r14.1).bind fun c18 =>
  (vIdxV 3 v0 v4).bind fun x24_21 =>
  (ldO globB false true 3 x24_21 r14.2).bind fun r23 =>
  (aggNV 3 r23.1).bind fun c26 =>
  (calleeV v1).bind fun p31 =>
  (qc p31.1 ((([(.agg [(strip (c18.getD 0 .nilp)), (strip (c18.getD 1 .nilp)), (strip (c18.getD 2 .nilp))]), (.agg [(strip (c26.getD 0 .nilp)), (strip (c26.getD 1 .nilp)), (strip (c26.getD 2 .nilp))])] : List V) ++ p31.2).map (frz r23.2))).bind fun x29_30 =>
  (vUnV .not x29_30).bind fun x30_32 =>
  ifVV x30_32 (
  some (some 1, [(.bool false)], r23.2)) (
  (vBinV (.int .i64) .add (strip v4) (.int .i64 1)).bind fun x31_34 =>
  some (none, [(strip v0), (strip v1), v2, v3, x31_34], r23.2))) (
  some (some 0, [], H)) := by kernel_rfl
theorem slices_EqualFunc___impl_Mail___impl_Mail_impl_Mail_impl_Mail__eq (a0 a1 a2 : V) (H : VH) : cv id_slices_EqualFunc___impl_Mail___impl_Mail_impl_Mail_impl_Mail_ [a0, a1, a2] H =
  (vLenVV a0).bind fun x11_2 =>
  (vLenVV a1).bind fun x13_4 =>
  (vBinV (.int .i64) .neq x11_2 x13_4).bind fun x14_5 =>
  ifVV x14_5 (
  some ((.bool false), H)) (
  (vLenVV (strip a0)).bind fun x16_8 =>
  (lpW' slices_EqualFunc___impl_Mail___impl_Mail_impl_Mail_impl_Mail__l4 [(strip a1), a2, (strip a0), x16_8, (.int .i64 0)] H).bind fun r36 =>
  inN r36.1 [
  gotV 0 r36.2.1 fun v37 =>
  some ((.bool true), r36.2.2),
  gotV 1 r36.2.1 fun v39 =>
  some ((v39 0), r36.2.2)]) := (callV_eq vb _ _ _ rfl).trans (by kernel_rfl)

/-! loop.example/mailwire/laws.eqSession : kind 1, moves [] -/
theorem laws_eqSession_eq (a0 a1 : V) (H : VH) : cv id_laws_eqSession [a0, a1] H =
  (aggNV 6 a0).bind fun c1 =>
  (aggNV 6 a1).bind fun c3 =>
  (vBinV (.int .i64) .neq (strip (c1.getD 0 .nilp)) (strip (c3.getD 0 .nilp))).bind fun x9_9 =>
  ifVV x9_9 (
  some ((.bool false), H)) (
  (vBinV .str .neq (strip (c1.getD 1 .nilp)) (strip (c3.getD 1 .nilp))).bind fun x14_15 =>
  ifVV x14_15 (
  some ((.bool false), H)) (
  (qc id_laws_eqMail [(frz H (.agg [(strip (c1.getD 2 .nilp)), (strip (c1.getD 3 .nilp)), (strip (c1.getD 4 .nilp))])), (frz H (.agg [(strip (c3.getD 2 .nilp)), (strip (c3.getD 3 .nilp)), (strip (c3.getD 4 .nilp))]))]).bind fun x19_21 =>
  (vUnV .not x19_21).bind fun x20_22 =>
  ifVV x20_22 (
  some ((.bool false), H)) (
  (qc id_laws_eqMailS [(frz H (strip (c1.getD 5 .nilp))), (frz H (strip (c3.getD 5 .nilp)))]).bind fun x25_28 =>
  (vUnV .not x25_28).bind fun x26_29 =>
  ifVV x26_29 (
  some ((.bool false), H)) (
  some ((.bool true), H))))) := (callV_eq vb _ _ _ rfl).trans (by kernel_rfl)

/-! loop.example/mailwire/laws.eqMail : kind 1, moves [] -/
theorem laws_eqMail_eq (a0 a1 : V) (H : VH) : cv id_laws_eqMail [a0, a1] H =
  (aggNV 3 a0).bind fun c1 =>
  (aggNV 3 a1).bind fun c3 =>
  (vBinV .str .neq (strip (c1.getD 0 .nilp)) (strip (c3.getD 0 .nilp))).bind fun x9_9 =>
  ifVV x9_9 (
  some ((.bool false), H)) (
  (qc id_laws_eqStringS [(frz H (strip (c1.getD 1 .nilp))), (frz H (strip (c3.getD 1 .nilp)))]).bind fun x14_15 =>
  (vUnV .not x14_15).bind fun x15_16 =>
  ifVV x15_16 (
  some ((.bool false), H)) (
  (qc id_laws_eqStringS [(frz H (strip (c1.getD 2 .nilp))), (frz H (strip (c3.getD 2 .nilp)))]).bind fun x20_22 =>
  (vUnV .not x20_22).bind fun x21_23 =>
  ifVV x21_23 (
  some ((.bool false), H)) (
  some ((.bool true), H)))) := (callV_eq vb _ _ _ rfl).trans (by kernel_rfl)

/-! loop.example/mailwire/laws.eqStringS : kind 1, moves [] -/
noncomputable def laws_eqStringS_l4 : List V → VH → Option (Option Nat × List V × VH) := roundV (vb.ctx cv lpW') (vb.b.ann 31) (vb.takes 31) ⟨⟨[0, 1, 5], [], []⟩, [(.exit 0, ⟨[], [], []⟩), (.ret, ⟨[4], [], []⟩)]⟩ (loopIn Try.f31 4)
theorem laws_eqStringS_l4_eq (v0 v1 v2 : V) (H : VH) : laws_eqStringS_l4 [v0, v1, v2] H =
  (vLenVV v0).bind fun x13_10 =>
  (vBinV (.int .i64) .lss v2 x13_10).bind fun x14_11 =>
  ifVV x14_11 (
  (vIdxV 1 (strip v0) (strip v2)).bind fun x19_14 =>
  (ldO globB false false 1 x19_14 H).bind fun r16 =>
  (vIdxV 1 v1 (strip (strip v2))).bind fun x23_19 =>
  (ldO globB false false 1 x23_19 r16.2).bind fun r21 =>
  (vBinV .str .neq r16.1 r21.1).bind fun x25_22 =>
  ifVV x25_22 (
  some (some 1, [(.bool false)], r21.2)) (
  (vBinV (.int .i64) .add (strip (strip (strip v2))) (.int .i64 1)).bind fun x16_25 =>
  some (none, [(strip (strip v0)), (strip v1), x16_25], r21.2))) (
  some (some 0, [], H)) := by kernel_rfl
theorem laws_eqStringS_eq (a0 a1 : V) (H : VH) : cv id_laws_eqStringS [a0, a1] H =
  (vLenVV a0).bind fun x7_2 =>
  (vLenVV a1).bind fun x9_4 =>
  (vBinV (.int .i64) .neq x7_2 x9_4).bind fun x10_5 =>
  ifVV x10_5 (
  some ((.bool false), H)) (
  (lpW' laws_eqStringS_l4 [(strip a0), (strip a1), (.int .i64 0)] H).bind fun r27 =>
  inN r27.1 [
  gotV 0 r27.2.1 fun v28 =>
  some ((.bool true), r27.2.2),
  gotV 1 r27.2.1 fun v30 =>
  some ((v30 0), r27.2.2)]) := (callV_eq vb _ _ _ rfl).trans (by kernel_rfl)

/-! loop.example/mailwire/laws.eqMailS : kind 1, moves [] -/
noncomputable def laws_eqMailS_l4 : List V → VH → Option (Option Nat × List V × VH) := roundV (vb.ctx cv lpW') (vb.b.ann 35) (vb.takes 35) ⟨⟨[0, 1, 5], [], []⟩, [(.exit 0, ⟨[], [], []⟩), (.ret, ⟨[4], [], []⟩)]⟩ (loopIn Try.f35 4)
theorem laws_eqMailS_l4_eq (v0 v1 v2 : V) (H : VH) : laws_eqMailS_l4 [v0, v1, v2] H =
  (vLenVV v0).bind fun x13_10 =>
  (vBinV (.int .i64) .lss v2 x13_10).bind fun x14_11 =>
  ifVV x14_11 (
  (vIdxV 3 (strip v0) (strip v2)).bind fun x19_14 =>
  (ldO globB false true 3 x19_14 H).bind fun r16 =>
  (vIdxV 3 v1 (strip (strip v2))).bind fun x23_19 =>
  (ldO globB false true 3 x23_19 r16.2).bind fun r21 =>
  (qc id_laws_eqMail [(frz r21.2 r16.1), (frz r21.2 r21.1)]).bind fun x25_22 =>
  (vUnV .not x25_22).bind fun x26_23 =>
  ifVV x26_23 (
  some (some 1, [(.bool false)], r21.2)) (
  (vBinV (.int .i64) .add (strip (strip (strip v2))) (.int .i64 1)).bind fun x16_26 =>
  some (none, [(strip (strip v0)), (strip v1), x16_26], r21.2))) (
  some (some 0, [], H)) := by kernel_rfl
theorem laws_eqMailS_eq (a0 a1 : V) (H : VH) : cv id_laws_eqMailS [a0, a1] H =
  (vLenVV a0).bind fun x7_2 =>
  (vLenVV a1).bind fun x9_4 =>
  (vBinV (.int .i64) .neq x7_2 x9_4).bind fun x10_5 =>
  ifVV x10_5 (
  some ((.bool false), H)) (
  (lpW' laws_eqMailS_l4 [(strip a0), (strip a1), (.int .i64 0)] H).bind fun r28 =>
  inN r28.1 [
  gotV 0 r28.2.1 fun v29 =>
  some ((.bool true), r28.2.2),
  gotV 1 r28.2.1 fun v31 =>
  some ((v31 0), r28.2.2)]) := (callV_eq vb _ _ _ rfl).trans (by kernel_rfl)

end Go.Proofs.Ytgpfabgnlpdpdaa.Q
