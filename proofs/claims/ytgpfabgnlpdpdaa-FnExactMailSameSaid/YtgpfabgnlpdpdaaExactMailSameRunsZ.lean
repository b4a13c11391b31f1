/- What a call of each function comes to. -/
import Derived.Test.YtgpfabgnlpdpdaaExactMailSameBaseZ
namespace Go.Proofs.Ytgpfabgnlpdpdaa.Q
open Go Go.AM Go.Proofs
set_option linter.unusedVariables false
set_option maxRecDepth 100000
/-! loop.example/mailwire/laws.FnExactMailSame : kind 1, moves [] -/
theorem laws_FnExactMailSame_eq (a0 a1 : V) (H : VH) : cv id_laws_FnExactMailSame [a0, a1] H =
  (aggNV 3 a0).bind fun c1 =>
  (aggNV 3 a1).bind fun c3 =>
  (qc id_laws_szMail [(frz H (.agg [(strip (c1.getD 0 .nilp)), (strip (c1.getD 1 .nilp)), (strip (c1.getD 2 .nilp))])), (frz H (.int .i64 1048576))]).bind fun x12_8 =>
  (vBinV (.int .i64) .lss x12_8 (.int .i64 0)).bind fun x14_11 =>
  ifVV x14_11 (
  some ((.bool true), H)) (
  (qc id_laws_szMail [(frz H (.agg [(strip (c3.getD 0 .nilp)), (strip (c3.getD 1 .nilp)), (strip (c3.getD 2 .nilp))])), (frz H (strip x12_8))]).bind fun x17_15 =>
  (vBinV (.int .i64) .lss x17_15 (.int .i64 0)).bind fun x19_18 =>
  ifVV x19_18 (
  some ((.bool true), H)) (
  (pc id_laws_toMail [(frz H (.agg [(strip (c1.getD 0 .nilp)), (strip (c1.getD 1 .nilp)), (strip (c1.getD 2 .nilp))]))]).bind fun x21_21 =>
  (pc id_laws_toMail [(frz H (.agg [(strip (c3.getD 0 .nilp)), (strip (c3.getD 1 .nilp)), (strip (c3.getD 2 .nilp))]))]).bind fun x23_23 =>
  (qc id_spec_MailSame [(frz H x21_21), (frz H x23_23)]).bind fun x24_24 =>
  (pc id_laws_toMail [(frz H (.agg [(strip (c1.getD 0 .nilp)), (strip (c1.getD 1 .nilp)), (strip (c1.getD 2 .nilp))]))]).bind fun x26_27 =>
  (aggNV 3 x26_27).bind fun c30 =>
  (pc id_laws_toMail [(frz H (.agg [(strip (c3.getD 0 .nilp)), (strip (c3.getD 1 .nilp)), (strip (c3.getD 2 .nilp))]))]).bind fun x28_32 =>
  (aggNV 3 x28_32).bind fun c35 =>
  (qc id_impl_MailSame [(frz H (.agg [(strip (c30.getD 0 .nilp)), (strip (c30.getD 1 .nilp)), (strip (c30.getD 2 .nilp))])), (frz H (.agg [(strip (c35.getD 0 .nilp)), (strip (c35.getD 1 .nilp)), (strip (c35.getD 2 .nilp))]))]).bind fun x31_38 =>
  (vBinV .bool .neq x31_38 x24_24).bind fun x34_42 =>
  ifVV x34_42 (
  some ((.bool false), H)) (
  (pc id_laws_toMail [(frz H (.agg [(strip (c1.getD 0 .nilp)), (strip (c1.getD 1 .nilp)), (strip (c1.getD 2 .nilp))]))]).bind fun x37_46 =>
  (qc id_laws_eqMail [(frz H (.agg [(strip (c30.getD 0 .nilp)), (strip (c30.getD 1 .nilp)), (strip (c30.getD 2 .nilp))])), (frz H x37_46)]).bind fun x38_47 =>
  (vUnV .not x38_47).bind fun x39_48 =>
  ifVV x39_48 (
  some ((.bool false), H)) (
  (pc id_laws_toMail [(frz H (.agg [(strip (c3.getD 0 .nilp)), (strip (c3.getD 1 .nilp)), (strip (c3.getD 2 .nilp))]))]).bind fun x42_52 =>
  (qc id_laws_eqMail [(frz H (.agg [(strip (c35.getD 0 .nilp)), (strip (c35.getD 1 .nilp)), (strip (c35.getD 2 .nilp))])), (frz H x42_52)]).bind fun x43_53 =>
  (vUnV .not x43_53).bind fun x44_54 =>
  ifVV x44_54 (
  some ((.bool false), H)) (
  some ((.bool true), H)))))) := (callV_eq vb _ _ _ rfl).trans (by kernel_rfl)

/-! loop.example/mailwire/laws.szMail : kind 1, moves [] -/
theorem laws_szMail_eq (a0 a1 : V) (H : VH) : cv id_laws_szMail [a0, a1] H =
  (aggNV 3 a0).bind fun c1 =>
  (vLenSV (strip (c1.getD 0 .nilp))).bind fun x8_6 =>
  (vBinV (.int .i64) .sub a1 x8_6).bind fun x9_7 =>
  (vBinV (.int .i64) .lss x9_7 (.int .i64 0)).bind fun x11_10 =>
  ifVV x11_10 (
  some ((.int .i64 (-1)), H)) (
  (qc id_laws_szStringS [(frz H (strip (c1.getD 1 .nilp))), (frz H (strip x9_7))]).bind fun x15_15 =>
  (vBinV (.int .i64) .lss x15_15 (.int .i64 0)).bind fun x17_18 =>
  ifVV x17_18 (
  some ((.int .i64 (-1)), H)) (
  (qc id_laws_szStringS [(frz H (strip (c1.getD 2 .nilp))), (frz H (strip x15_15))]).bind fun x21_23 =>
  (vBinV (.int .i64) .lss x21_23 (.int .i64 0)).bind fun x23_26 =>
  ifVV x23_26 (
  some ((.int .i64 (-1)), H)) (
  some ((strip x21_23), H)))) := (callV_eq vb _ _ _ rfl).trans (by kernel_rfl)

/-! loop.example/mailwire/laws.szStringS : kind 1, moves [] -/
noncomputable def laws_szStringS_l5 : List V → VH → Option (Option Nat × List V × VH) := roundV (vb.ctx cv lpW') (vb.b.ann 27) (vb.takes 27) ⟨⟨[0, 1, 5], [], []⟩, [(.exit 0, ⟨[1], [], []⟩), (.ret, ⟨[4], [], []⟩)]⟩ (loopIn Try.f27 5)
theorem laws_szStringS_l5_eq (v0 v1 v2 : V) (H : VH) : laws_szStringS_l5 [v0, v1, v2] H =
  (vLenVV v0).bind fun x14_12 =>
  (vBinV (.int .i64) .lss v2 x14_12).bind fun x15_13 =>
  ifVV x15_13 (
  (vIdxV 1 (strip v0) (strip v2)).bind fun x21_17 =>
  (ldO globB false false 1 x21_17 H).bind fun r19 =>
  (vLenSV r19.1).bind fun x23_20 =>
  (vBinV (.int .i64) .sub v1 x23_20).bind fun x24_21 =>
  (vBinV (.int .i64) .lss x24_21 (.int .i64 0)).bind fun x26_24 =>
  ifVV x26_24 (
  some (some 1, [(.int .i64 (-1))], r19.2)) (
  (vBinV (.int .i64) .add (strip (strip v2)) (.int .i64 1)).bind fun x17_27 =>
  some (none, [(strip (strip v0)), (strip x24_21), x17_27], r19.2))) (
  some (some 0, [v1], H)) := by kernel_rfl
theorem laws_szStringS_eq (a0 a1 : V) (H : VH) : cv id_laws_szStringS [a0, a1] H =
  (vLenVV a0).bind fun x8_3 =>
  (vBinV (.int .i64) .sub a1 x8_3).bind fun x9_4 =>
  (vBinV (.int .i64) .lss x9_4 (.int .i64 0)).bind fun x11_7 =>
  ifVV x11_7 (
  some ((.int .i64 (-1)), H)) (
  (lpW' laws_szStringS_l5 [(strip a0), (strip x9_4), (.int .i64 0)] H).bind fun r29 =>
  inN r29.1 [
  gotV 1 r29.2.1 fun v30 =>
  some ((v30 0), r29.2.2),
  gotV 1 r29.2.1 fun v33 =>
  some ((v33 0), r29.2.2)]) := (callV_eq vb _ _ _ rfl).trans (by kernel_rfl)

/-! loop.example/mailwire/laws.toMail : kind 2, moves [] -/
theorem laws_toMail_eq (a0 : V) (H : VH) : cv id_laws_toMail [a0] H =
  (aggNV 3 a0).bind fun c1 =>
  (vOneV (strip (c1.getD 0 .nilp))).bind fun y8 =>
  (pc id_laws_toStringS [(frz H (strip (c1.getD 1 .nilp)))]).bind fun x9_11 =>
  (vOneV x9_11).bind fun y14 =>
  (pc id_laws_toStringS [(frz H (strip (c1.getD 2 .nilp)))]).bind fun x13_17 =>
  (vOneV x13_17).bind fun y20 =>
  some ((.agg [y8, y14, y20]), H) := (callV_eq vb _ _ _ rfl).trans (by kernel_rfl)

/-! loop.example/mailwire/laws.toStringS : kind 2, moves [] -/
noncomputable def laws_toStringS_l3 : List V → VH → Option (Option Nat × List V × VH) := roundV (vb.ctx cv lpW') (vb.b.ann 29) (vb.takes 29) ⟨⟨[0, 3, 4], [], []⟩, [(.exit 0, ⟨[3], [], []⟩)]⟩ (loopIn Try.f29 3)
theorem laws_toStringS_l3_eq (v0 v1 v2 : V) (H : VH) : laws_toStringS_l3 [v0, v1, v2] H =
  (vLenVV v0).bind fun x10_8 =>
  (vBinV (.int .i64) .lss v2 x10_8).bind fun x11_9 =>
  ifVV x11_9 (
  (vIdxV 1 (strip v0) (strip (strip v2))).bind fun x18_14 =>
  (ldO globB false false 1 x18_14 H).bind fun r16 =>
  (vIdxV 1 v1 (strip v2)).bind fun x20_17 =>
  (vOneV r16.1).bind fun y19 =>
  (stO x20_17 [y19] r16.2).bind fun H20 =>
  (vBinV (.int .i64) .add (strip (strip (strip v2))) (.int .i64 1)).bind fun x13_22 =>
  some (none, [(strip (strip v0)), (strip v1), x13_22], H20)) (
  some (some 0, [v1], H)) := by kernel_rfl
theorem laws_toStringS_eq (a0 : V) (H : VH) : cv id_laws_toStringS [a0] H =
  (vLenVV a0).bind fun x6_2 =>
  (mkLenV 16 x6_2 x6_2).bind fun x7_3 =>
  (lpW' laws_toStringS_l3 [(strip a0), (.obs H.length 0 x7_3.1 1), (.int .i64 0)] (H ++ [repV x7_3.2 [(.str [])]])).bind fun r24 =>
  inN r24.1 [
  gotV 1 r24.2.1 fun v25 =>
  some ((v25 0), r24.2.2)] := (callV_eq vb _ _ _ rfl).trans (by kernel_rfl)

/-! loop.example/mailwire/spec.MailSame : kind 1, moves [] -/
theorem spec_MailSame_eq (a0 a1 : V) (H : VH) : cv id_spec_MailSame [a0, a1] H =
  (aggNV 3 a0).bind fun c1 =>
  (aggNV 3 a1).bind fun c3 =>
  (vBinV .str .eql (strip (c1.getD 0 .nilp)) (strip (c3.getD 0 .nilp))).bind fun x9_9 =>
  ifVV x9_9 (
  (qc id_spec_l10Texts [(frz H (strip (c1.getD 1 .nilp))), (frz H (strip (c3.getD 1 .nilp)))]).bind fun x15_15 =>
  ifVV x15_15 (
  (qc id_spec_l10Texts [(frz H (strip (c1.getD 2 .nilp))), (frz H (strip (c3.getD 2 .nilp)))]).bind fun x22_22 =>
  some (x22_22, H)) (
  some ((.bool false), H))) (
  some ((.bool false), H)) := (callV_eq vb _ _ _ rfl).trans (by kernel_rfl)

/-! loop.example/mailwire/spec.l10Texts : kind 1, moves [] -/
noncomputable def spec_l10Texts_l4 : List V → VH → Option (Option Nat × List V × VH) := roundV (vb.ctx cv lpW') (vb.b.ann 28) (vb.takes 28) ⟨⟨[0, 1, 5], [], []⟩, [(.exit 0, ⟨[], [], []⟩), (.ret, ⟨[4], [], []⟩)]⟩ (loopIn Try.f28 4)
theorem spec_l10Texts_l4_eq (v0 v1 v2 : V) (H : VH) : spec_l10Texts_l4 [v0, v1, v2] H =
  (vLenVV v0).bind fun x13_10 =>
  (vBinV (.int .i64) .lss v2 x13_10).bind fun x14_11 =>
  ifVV x14_11 (
  (vIdxV 1 (strip v0) (strip v2)).bind fun x19_14 =>
  (ldO globB false false 1 x19_14 H).bind fun r16 =>
  (vIdxV 1 v1 (strip (strip v2))).bind fun x23_19 =>
  (ldO globB false false 1 x23_19 r16.2).bind fun r21 =>
  (vBinV .str .neq r16.1 r21.1).bind fun x25_22 =>
  ifVV x25_22 (
  some (some 1, [(.bool false)], r21.2)) (
  (vBinV (.int .i64) .add (strip (strip (strip v2))) (.int .i64 1)).bind fun x16_25 =>
  some (none, [(strip (strip v0)), (strip v1), x16_25], r21.2))) (
  some (some 0, [], H)) := by kernel_rfl
theorem spec_l10Texts_eq (a0 a1 : V) (H : VH) : cv id_spec_l10Texts [a0, a1] H =
  (vLenVV a0).bind fun x7_2 =>
  (vLenVV a1).bind fun x9_4 =>
  (vBinV (.int .i64) .neq x7_2 x9_4).bind fun x10_5 =>
  ifVV x10_5 (
  some ((.bool false), H)) (
  (lpW' spec_l10Texts_l4 [(strip a0), (strip a1), (.int .i64 0)] H).bind fun r27 =>
  inN r27.1 [
  gotV 0 r27.2.1 fun v28 =>
  some ((.bool true), r27.2.2),
  gotV 1 r27.2.1 fun v30 =>
  some ((v30 0), r27.2.2)]) := (callV_eq vb _ _ _ rfl).trans (by kernel_rfl)

/-! loop.example/mailwire/impl.MailSame : kind 1, moves [] -/
theorem impl_MailSame_eq (a0 a1 : V) (H : VH) : cv id_impl_MailSame [a0, a1] H =
  (aggNV 3 a0).bind fun c1 =>
  (aggNV 3 a1).bind fun c3 =>
  (vBinV .str .eql (strip (c1.getD 0 .nilp)) (strip (c3.getD 0 .nilp))).bind fun x9_9 =>
  ifVV x9_9 (
  (qc id_slices_Equal___string_string_ [(frz H (strip (c1.getD 1 .nilp))), (frz H (strip (c3.getD 1 .nilp)))]).bind fun x15_15 =>
  ifVV x15_15 (
  (qc id_slices_Equal___string_string_ [(frz H (strip (c1.getD 2 .nilp))), (frz H (strip (c3.getD 2 .nilp)))]).bind fun x22_22 =>
  some (x22_22, H)) (
  some ((.bool false), H))) (
  some ((.bool false), H)) := (callV_eq vb _ _ _ rfl).trans (by kernel_rfl)

/-! slices.Equal[[]string,string] : kind 1, moves [] -/
noncomputable def slices_Equal___string_string__l4 : List V → VH → Option (Option Nat × List V × VH) := roundV (vb.ctx cv lpW') (vb.b.ann 30) (vb.takes 30) ⟨⟨[0, 1, 12, 13], [], []⟩, [(.exit 0, ⟨[], [], []⟩), (.ret, ⟨[4], [], []⟩)]⟩ (loopIn Try.f30 4)
theorem slices_Equal___string_string__l4_eq (v0 v1 v2 v3 : V) (H : VH) : slices_Equal___string_string__l4 [v0, v1, v2, v3] H =
  (vBinV (.int .i64) .lss v3 v2).bind fun x14_10 =>
  ifVV x14_10 (
  (vIdxV 1 v0 v3).bind fun x18_15 =>
  (ldO globB false false 1 x18_15 H).bind fun r17 =>
  (vIdxV 1 v1 (strip v3)).bind fun x22_20 =>
  (ldO globB false false 1 x22_20 r17.2).bind fun r22 =>
  (vBinV .str .neq r17.1 r22.1).bind fun x24_23 =>
  ifVV x24_23 (
  some (some 1, [(.bool false)], r22.2)) (
  (vBinV (.int .i64) .add (strip v3) (.int .i64 1)).bind fun x25_25 =>
  some (none, [(strip v0), (strip v1), v2, x25_25], r22.2))) (
  some (some 0, [], H)) := by kernel_rfl
theorem slices_Equal___string_string__eq (a0 a1 : V) (H : VH) : cv id_slices_Equal___string_string_ [a0, a1] H =
  (vLenVV a0).bind fun x7_2 =>
  (vLenVV a1).bind fun x9_4 =>
  (vBinV (.int .i64) .neq x7_2 x9_4).bind fun x10_5 =>
  ifVV x10_5 (
  some ((.bool false), H)) (
  (vLenVV (strip a0)).bind fun x12_8 =>
  (lpW' slices_Equal___string_string__l4 [(strip (strip a0)), (strip a1), x12_8, (.int .i64 0)] H).bind fun r27 =>
  inN r27.1 [
  gotV 0 r27.2.1 fun v28 =>
  some ((.bool true), r27.2.2),
  gotV 1 r27.2.1 fun v30 =>
  some ((v30 0), r27.2.2)]) := (callV_eq vb _ _ _ rfl).trans (by kernel_rfl)

/-! loop.example/mailwire/laws.eqMail : kind 1, moves [] -/
theorem laws_eqMail_eq (a0 a1 : V) (H : VH) : cv id_laws_eqMail [a0, a1] H =
  (aggNV 3 a0).bind fun c1 =>
  (aggNV 3 a1).bind fun c3 =>
  (vBinV .str .neq (strip (c1.getD 0 .nilp)) (strip (c3.getD 0 .nilp))).bind fun x9_9 =>
  ifVV x9_9 (
  some ((.bool false), H)) (
  (qc id_laws_eqStringS [(frz H (strip (c1.getD 1 .nilp))), (frz H (strip (c3.getD 1 .nilp)))]).bind fun x14_15 =>
  (vUnV .not x14_15).bind fun x15_16 =>
  ifVV x15_16 (
  some ((.bool false), H)) (
  (qc id_laws_eqStringS [(frz H (strip (c1.getD 2 .nilp))), (frz H (strip (c3.getD 2 .nilp)))]).bind fun x20_22 =>
  (vUnV .not x20_22).bind fun x21_23 =>
  ifVV x21_23 (
  some ((.bool false), H)) (
  some ((.bool true), H)))) := (callV_eq vb _ _ _ rfl).trans (by kernel_rfl)

/-! loop.example/mailwire/laws.eqStringS : kind 1, moves [] -/
noncomputable def laws_eqStringS_l4 : List V → VH → Option (Option Nat × List V × VH) := roundV (vb.ctx cv lpW') (vb.b.ann 31) (vb.takes 31) ⟨⟨[0, 1, 5], [], []⟩, [(.exit 0, ⟨[], [], []⟩), (.ret, ⟨[4], [], []⟩)]⟩ (loopIn Try.f31 4)
theorem laws_eqStringS_l4_eq (v0 v1 v2 : V) (H : VH) : laws_eqStringS_l4 [v0, v1, v2] H =
  (vLenVV v0).bind fun x13_10 =>
  (vBinV (.int .i64) .lss v2 x13_10).bind fun x14_11 =>
  ifVV x14_11 (
  (vIdxV 1 (strip v0) (strip v2)).bind fun x19_14 =>
  (ldO globB false false 1 x19_14 H).bind fun r16 =>
  (vIdxV 1 v1 (strip (strip v2))).bind fun x23_19 =>
  (ldO globB false false 1 x23_19 r16.2).bind fun r21 =>
  (vBinV .str .neq r16.1 r21.1).bind fun x25_22 =>
  ifVV x25_22 (
  some (some 1, [(.bool false)], r21.2)) (
  (vBinV (.int .i64) .add (strip (strip (strip v2))) (.int .i64 1)).bind fun x16_25 =>
  some (none, [(strip (strip v0)), (strip v1), x16_25], r21.2))) (
  some (some 0, [], H)) := by kernel_rfl
theorem laws_eqStringS_eq (a0 a1 : V) (H : VH) : cv id_laws_eqStringS [a0, a1] H =
  (vLenVV a0).bind fun x7_2 =>
  (vLenVV a1).bind fun x9_4 =>
  (vBinV (.int .i64) .neq x7_2 x9_4).bind fun x10_5 =>
  ifVV x10_5 (
  some ((.bool false), H)) (
  (lpW' laws_eqStringS_l4 [(strip a0), (strip a1), (.int .i64 0)] H).bind fun r27 =>
  inN r27.1 [
  gotV 0 r27.2.1 fun v28 =>
  some ((.bool true), r27.2.2),
  gotV 1 r27.2.1 fun v30 =>
  some ((v30 0), r27.2.2)]) := (callV_eq vb _ _ _ rfl).trans (by kernel_rfl)

end Go.Proofs.Ytgpfabgnlpdpdaa.Q
