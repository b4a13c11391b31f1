/- What a call of each function comes to. -/
import Derived.Test.YtgpfabgnlpdpdaaExactBoxesSameBaseZ
namespace Go.Proofs.Ytgpfabgnlpdpdaa.Q
open Go Go.AM Go.Proofs
set_option linter.unusedVariables false
set_option maxRecDepth 100000
/-! loop.example/mailwire/laws.FnExactBoxesSame : kind 1, moves [] -/
theorem laws_FnExactBoxesSame_eq (a0 a1 : V) (H : VH) : cv id_laws_FnExactBoxesSame [a0, a1] H =
  (qc id_laws_szBoxS [(frz H a0), (frz H (.int .i64 1048576))]).bind fun x12_4 =>
  (vBinV (.int .i64) .lss x12_4 (.int .i64 0)).bind fun x14_7 =>
  ifVV x14_7 (
  some ((.bool true), H)) (
  (qc id_laws_szBoxS [(frz H a1), (frz H (strip x12_4))]).bind fun x17_11 =>
  (vBinV (.int .i64) .lss x17_11 (.int .i64 0)).bind fun x19_14 =>
  ifVV x19_14 (
  some ((.bool true), H)) (
  (pc id_laws_toBoxS [(frz H (strip a0))]).bind fun x21_17 =>
  (pc id_laws_toBoxS [(frz H (strip a1))]).bind fun x23_19 =>
  (qc id_spec_BoxesSame [(frz H x21_17), (frz H x23_19)]).bind fun x24_20 =>
  (pc id_laws_toBoxS [(frz H (strip (strip a0)))]).bind fun x26_23 =>
  (pc id_laws_toBoxS [(frz H (strip (strip a1)))]).bind fun x28_26 =>
  (qc id_impl_BoxesSame [(frz H x26_23), (frz H x28_26)]).bind fun x31_30 =>
  (vBinV .bool .neq x31_30 x24_20).bind fun x34_34 =>
  ifVV x34_34 (
  some ((.bool false), H)) (
  (pc id_laws_toBoxS [(frz H (strip (strip (strip a0))))]).bind fun x37_38 =>
  (qc id_laws_eqBoxS [(frz H (strip x26_23)), (frz H x37_38)]).bind fun x38_39 =>
  (vUnV .not x38_39).bind fun x39_40 =>
  ifVV x39_40 (
  some ((.bool false), H)) (
  (pc id_laws_toBoxS [(frz H (strip (strip (strip a1))))]).bind fun x42_44 =>
  (qc id_laws_eqBoxS [(frz H (strip x28_26)), (frz H x42_44)]).bind fun x43_45 =>
  (vUnV .not x43_45).bind fun x44_46 =>
  ifVV x44_46 (
  some ((.bool false), H)) (
  some ((.bool true), H)))))) := (callV_eq vb _ _ _ rfl).trans (by kernel_rfl)

/-! loop.example/mailwire/laws.szBoxS : kind 1, moves [] -/
noncomputable def laws_szBoxS_l5 : List V → VH → Option (Option Nat × List V × VH) := roundV (vb.ctx cv lpW') (vb.b.ann 20) (vb.takes 20) ⟨⟨[0, 1, 5], [], []⟩, [(.exit 0, ⟨[1], [], []⟩), (.ret, ⟨[4], [], []⟩)]⟩ (loopIn Try.f20 5)
theorem laws_szBoxS_l5_eq (v0 v1 v2 : V) (H : VH) : laws_szBoxS_l5 [v0, v1, v2] H =
  (vLenVV v0).bind fun x14_12 =>
  (vBinV (.int .i64) .lss v2 x14_12).bind fun x15_13 =>
  ifVV x15_13 (
  (vIdxV 2 (strip v0) (strip v2)).bind fun x20_16 =>
  (ldO globB false true 2 x20_16 H).bind fun r18 =>
  (qc id_laws_szBox [(frz r18.2 r18.1), (frz r18.2 v1)]).bind fun x23_20 =>
  (vBinV (.int .i64) .lss x23_20 (.int .i64 0)).bind fun x25_23 =>
  ifVV x25_23 (
  some (some 1, [(.int .i64 (-1))], r18.2)) (
  (vBinV (.int .i64) .add (strip (strip v2)) (.int .i64 1)).bind fun x17_26 =>
  some (none, [(strip (strip v0)), (strip x23_20), x17_26], r18.2))) (
  some (some 0, [v1], H)) := by kernel_rfl
theorem laws_szBoxS_eq (a0 a1 : V) (H : VH) : cv id_laws_szBoxS [a0, a1] H =
  (vLenVV a0).bind fun x8_3 =>
  (vBinV (.int .i64) .sub a1 x8_3).bind fun x9_4 =>
  (vBinV (.int .i64) .lss x9_4 (.int .i64 0)).bind fun x11_7 =>
  ifVV x11_7 (
  some ((.int .i64 (-1)), H)) (
  (lpW' laws_szBoxS_l5 [(strip a0), (strip x9_4), (.int .i64 0)] H).bind fun r28 =>
  inN r28.1 [
  gotV 1 r28.2.1 fun v29 =>
  some ((v29 0), r28.2.2),
  gotV 1 r28.2.1 fun v32 =>
  some ((v32 0), r28.2.2)]) := (callV_eq vb _ _ _ rfl).trans (by kernel_rfl)

/-! loop.example/mailwire/laws.szBox : kind 1, moves [] -/
theorem laws_szBox_eq (a0 a1 : V) (H : VH) : cv id_laws_szBox [a0, a1] H =
  (aggNV 2 a0).bind fun c1 =>
  (vLenSV (strip (c1.getD 0 .nilp))).bind fun x8_6 =>
  (vBinV (.int .i64) .sub a1 x8_6).bind fun x9_7 =>
  (vBinV (.int .i64) .lss x9_7 (.int .i64 0)).bind fun x11_10 =>
  ifVV x11_10 (
  some ((.int .i64 (-1)), H)) (
  (qc id_laws_szMailS [(frz H (strip (c1.getD 1 .nilp))), (frz H (strip x9_7))]).bind fun x15_15 =>
  (vBinV (.int .i64) .lss x15_15 (.int .i64 0)).bind fun x17_18 =>
  ifVV x17_18 (
  some ((.int .i64 (-1)), H)) (
  some ((strip x15_15), H))) := (callV_eq vb _ _ _ rfl).trans (by kernel_rfl)

/-! loop.example/mailwire/laws.szMailS : kind 1, moves [] -/
noncomputable def laws_szMailS_l5 : List V → VH → Option (Option Nat × List V × VH) := roundV (vb.ctx cv lpW') (vb.b.ann 32) (vb.takes 32) ⟨⟨[0, 1, 5], [], []⟩, [(.exit 0, ⟨[1], [], []⟩), (.ret, ⟨[4], [], []⟩)]⟩ (loopIn Try.f32 5)
theorem laws_szMailS_l5_eq (v0 v1 v2 : V) (H : VH) : laws_szMailS_l5 [v0, v1, v2] H =
  (vLenVV v0).bind fun x14_12 =>
  (vBinV (.int .i64) .lss v2 x14_12).bind fun x15_13 =>
  ifVV x15_13 (
  (vIdxV 3 (strip v0) (strip v2)).bind fun x20_16 =>
  (ldO globB false true 3 x20_16 H).bind fun r18 =>
  (qc id_laws_szMail [(frz r18.2 r18.1), (frz r18.2 v1)]).bind fun x23_20 =>
  (vBinV (.int .i64) .lss x23_20 (.int .i64 0)).bind fun x25_23 =>
  ifVV x25_23 (
  some (some 1, [(.int .i64 (-1))], r18.2)) (
  (vBinV (.int .i64) .add (strip (strip v2)) (.int .i64 1)).bind fun x17_26 =>
  some (none, [(strip (strip v0)), (strip x23_20), x17_26], r18.2))) (
  some (some 0, [v1], H)) := by kernel_rfl
theorem laws_szMailS_eq (a0 a1 : V) (H : VH) : cv id_laws_szMailS [a0, a1] H =
  (vLenVV a0).bind fun x8_3 =>
  (vBinV (.int .i64) .sub a1 x8_3).bind fun x9_4 =>
  (vBinV (.int .i64) .lss x9_4 (.int .i64 0)).bind fun x11_7 =>
  ifVV x11_7 (
  some ((.int .i64 (-1)), H)) (
  (lpW' laws_szMailS_l5 [(strip a0), (strip x9_4), (.int .i64 0)] H).bind fun r28 =>
  inN r28.1 [
  gotV 1 r28.2.1 fun v29 =>
  some ((v29 0), r28.2.2),
  gotV 1 r28.2.1 fun v32 =>
  some ((v32 0), r28.2.2)]) := (callV_eq vb _ _ _ rfl).trans (by kernel_rfl)

/-! loop.example/mailwire/laws.szMail : kind 1, moves [] -/
theorem laws_szMail_eq (a0 a1 : V) (H : VH) : cv id_laws_szMail [a0, a1] H =
  (aggNV 3 a0).bind fun c1 =>
  (vLenSV (strip (c1.getD 0 .nilp))).bind fun x8_6 =>
  (vBinV (.int .i64) .sub a1 x8_6).bind fun x9_7 =>
  (vBinV (.int .i64) .lss x9_7 (.int .i64 0)).bind fun x11_10 =>
  ifVV x11_10 (
  some ((.int .i64 (-1)), H)) (
  (qc id_laws_szStringS [(frz H (strip (c1.getD 1 .nilp))), (frz H (strip x9_7))]).bind fun x15_15 =>
  (vBinV (.int .i64) .lss x15_15 (.int .i64 0)).bind fun x17_18 =>
  ifVV x17_18 (
  some ((.int .i64 (-1)), H)) (
  (qc id_laws_szStringS [(frz H (strip (c1.getD 2 .nilp))), (frz H (strip x15_15))]).bind fun x21_23 =>
  (vBinV (.int .i64) .lss x21_23 (.int .i64 0)).bind fun x23_26 =>
  ifVV x23_26 (
  some ((.int .i64 (-1)), H)) (
  some ((strip x21_23), H)))) := (callV_eq vb _ _ _ rfl).trans (by kernel_rfl)

/-! loop.example/mailwire/laws.szStringS : kind 1, moves [] -/
noncomputable def laws_szStringS_l5 : List V → VH → Option (Option Nat × List V × VH) := roundV (vb.ctx cv lpW') (vb.b.ann 27) (vb.takes 27) ⟨⟨[0, 1, 5], [], []⟩, [(.exit 0, ⟨[1], [], []⟩), (.ret, ⟨[4], [], []⟩)]⟩ (loopIn Try.f27 5)
theorem laws_szStringS_l5_eq (v0 v1 v2 : V) (H : VH) : laws_szStringS_l5 [v0, v1, v2] H =
  (vLenVV v0).bind fun x14_12 =>
  (vBinV (.int .i64) .lss v2 x14_12).bind fun x15_13 =>
  ifVV x15_13 (
  (vIdxV 1 (strip v0) (strip v2)).bind fun x21_17 =>
  (ldO globB false false 1 x21_17 H).bind fun r19 =>
  (vLenSV r19.1).bind fun x23_20 =>
  (vBinV (.int .i64) .sub v1 x23_20).bind fun x24_21 =>
  (vBinV (.int .i64) .lss x24_21 (.int .i64 0)).bind fun x26_24 =>
  ifVV x26_24 (
  some (some 1, [(.int .i64 (-1))], r19.2)) (
  (vBinV (.int .i64) .add (strip (strip v2)) (.int .i64 1)).bind fun x17_27 =>
  some (none, [(strip (strip v0)), (strip x24_21), x17_27], r19.2))) (
  some (some 0, [v1], H)) := by kernel_rfl
theorem laws_szStringS_eq (a0 a1 : V) (H : VH) : cv id_laws_szStringS [a0, a1] H =
  (vLenVV a0).bind fun x8_3 =>
  (vBinV (.int .i64) .sub a1 x8_3).bind fun x9_4 =>
  (vBinV (.int .i64) .lss x9_4 (.int .i64 0)).bind fun x11_7 =>
  ifVV x11_7 (
  some ((.int .i64 (-1)), H)) (
  (lpW' laws_szStringS_l5 [(strip a0), (strip x9_4), (.int .i64 0)] H).bind fun r29 =>
  inN r29.1 [
  gotV 1 r29.2.1 fun v30 =>
  some ((v30 0), r29.2.2),
  gotV 1 r29.2.1 fun v33 =>
  some ((v33 0), r29.2.2)]) := (callV_eq vb _ _ _ rfl).trans (by kernel_rfl)

/-! loop.example/mailwire/laws.toBoxS : kind 2, moves [] -/
noncomputable def laws_toBoxS_l3 : List V → VH → Option (Option Nat × List V × VH) := roundV (vb.ctx cv lpW') (vb.b.ann 22) (vb.takes 22) ⟨⟨[0, 3, 4], [], []⟩, [(.exit 0, ⟨[3], [], []⟩)]⟩ (loopIn Try.f22 3)
theorem laws_toBoxS_l3_eq (v0 v1 v2 : V) (H : VH) : laws_toBoxS_l3 [v0, v1, v2] H =
  (vLenVV v0).bind fun x10_8 =>
  (vBinV (.int .i64) .lss v2 x10_8).bind fun x11_9 =>
  ifVV x11_9 (
  (vIdxV 2 (strip v0) (strip (strip v2))).bind fun x18_14 =>
  (ldO globB false true 2 x18_14 H).bind fun r16 =>
  (pc id_laws_toBox [(frz r16.2 r16.1)]).bind fun x20_17 =>
  (vIdxV 2 v1 (strip v2)).bind fun x21_18 =>
  (aggNV 2 x20_17).bind fun c20 =>
  (stO x21_18 [(c20.getD 0 .nilp), (c20.getD 1 .nilp)] r16.2).bind fun H21 =>
  (vBinV (.int .i64) .add (strip (strip (strip v2))) (.int .i64 1)).bind fun x13_23 =>
  some (none, [(strip (strip v0)), (strip v1), x13_23], H21)) (
  some (some 0, [v1], H)) := by kernel_rfl
theorem laws_toBoxS_eq (a0 : V) (H : VH) : cv id_laws_toBoxS [a0] H =
  (vLenVV a0).bind fun x6_2 =>
  (mkLenV 40 x6_2 x6_2).bind fun x7_3 =>
  (lpW' laws_toBoxS_l3 [(strip a0), (.obs H.length 0 x7_3.1 2), (.int .i64 0)] (H ++ [repV x7_3.2 [(.str []), (.sl true [])]])).bind fun r25 =>
  inN r25.1 [
  gotV 1 r25.2.1 fun v26 =>
  some ((v26 0), r25.2.2)] := (callV_eq vb _ _ _ rfl).trans (by kernel_rfl)

/-! loop.example/mailwire/laws.toBox : kind 2, moves [] -/
theorem laws_toBox_eq (a0 : V) (H : VH) : cv id_laws_toBox [a0] H =
  (aggNV 2 a0).bind fun c1 =>
  (vOneV (strip (c1.getD 0 .nilp))).bind fun y8 =>
  (pc id_laws_toMailS [(frz H (strip (c1.getD 1 .nilp)))]).bind fun x9_11 =>
  (vOneV x9_11).bind fun y14 =>
  some ((.agg [y8, y14]), H) := (callV_eq vb _ _ _ rfl).trans (by kernel_rfl)

/-! loop.example/mailwire/laws.toMailS : kind 2, moves [] -/
noncomputable def laws_toMailS_l3 : List V → VH → Option (Option Nat × List V × VH) := roundV (vb.ctx cv lpW') (vb.b.ann 33) (vb.takes 33) ⟨⟨[0, 3, 4], [], []⟩, [(.exit 0, ⟨[3], [], []⟩)]⟩ (loopIn Try.f33 3)
theorem laws_toMailS_l3_eq (v0 v1 v2 : V) (H : VH) : laws_toMailS_l3 [v0, v1, v2] H =
  (vLenVV v0).bind fun x10_8 =>
  (vBinV (.int .i64) .lss v2 x10_8).bind fun x11_9 =>
  ifVV x11_9 (
  (vIdxV 3 (strip v0) (strip (strip v2))).bind fun x18_14 =>
  (ldO globB false true 3 x18_14 H).bind fun r16 =>
  (pc id_laws_toMail [(frz r16.2 r16.1)]).bind fun x20_17 =>
  (vIdxV 3 v1 (strip v2)).bind fun x21_18 =>
  (aggNV 3 x20_17).bind fun c20 =>
  (stO x21_18 [(c20.getD 0 .nilp), (c20.getD 1 .nilp), (c20.getD 2 .nilp)] r16.2).bind fun H21 =>
  (vBinV (.int .i64) .add (strip (strip (strip v2))) (.int .i64 1)).bind fun x13_23 =>
  some (none, [(strip (strip v0)), (strip v1), x13_23], H21)) (
  some (some 0, [v1], H)) := by kernel_rfl
theorem laws_toMailS_eq (a0 : V) (H : VH) : cv id_laws_toMailS [a0] H =
  (vLenVV a0).bind fun x6_2 =>
  (mkLenV 64 x6_2 x6_2).bind fun x7_3 =>
  (lpW' laws_toMailS_l3 [(strip a0), (.obs H.length 0 x7_3.1 3), (.int .i64 0)] (H ++ [repV x7_3.2 [(.str []), (.sl true []), (.sl true [])]])).bind fun r25 =>
  inN r25.1 [
  gotV 1 r25.2.1 fun v26 =>
  some ((v26 0), r25.2.2)] := (callV_eq vb _ _ _ rfl).trans (by kernel_rfl)

/-! loop.example/mailwire/laws.toMail : kind 2, moves [] -/
theorem laws_toMail_eq (a0 : V) (H : VH) : cv id_laws_toMail [a0] H =
  (aggNV 3 a0).bind fun c1 =>
  (vOneV (strip (c1.getD 0 .nilp))).bind fun y8 =>
  (pc id_laws_toStringS [(frz H (strip (c1.getD 1 .nilp)))]).bind fun x9_11 =>
  (vOneV x9_11).bind fun y14 =>
  (pc id_laws_toStringS [(frz H (strip (c1.getD 2 .nilp)))]).bind fun x13_17 =>
  (vOneV x13_17).bind fun y20 =>
  some ((.agg [y8, y14, y20]), H) := (callV_eq vb _ _ _ rfl).trans (by kernel_rfl)

/-! loop.example/mailwire/laws.toStringS : kind 2, moves [] -/
noncomputable def laws_toStringS_l3 : List V → VH → Option (Option Nat × List V × VH) := roundV (vb.ctx cv lpW') (vb.b.ann 29) (vb.takes 29) ⟨⟨[0, 3, 4], [], []⟩, [(.exit 0, ⟨[3], [], []⟩)]⟩ (loopIn Try.f29 3)
theorem laws_toStringS_l3_eq (v0 v1 v2 : V) (H : VH) : laws_toStringS_l3 [v0, v1, v2] H =
  (vLenVV v0).bind fun x10_8 =>
  (vBinV (.int .i64) .lss v2 x10_8).bind fun x11_9 =>
  ifVV x11_9 (
  (vIdxV 1 (strip v0) (strip (strip v2))).bind fun x18_14 =>
  (ldO globB false false 1 x18_14 H).bind fun r16 =>
  (vIdxV 1 v1 (strip v2)).bind fun x20_17 =>
  (vOneV r16.1).bind fun y19 =>
  (stO x20_17 [y19] r16.2).bind fun H20 =>
  (vBinV (.int .i64) .add (strip (strip (strip v2))) (.int .i64 1)).bind fun x13_22 =>
  some (none, [(strip (strip v0)), (strip v1), x13_22], H20)) (
  some (some 0, [v1], H)) := by kernel_rfl
theorem laws_toStringS_eq (a0 : V) (H : VH) : cv id_laws_toStringS [a0] H =
  (vLenVV a0).bind fun x6_2 =>
  (mkLenV 16 x6_2 x6_2).bind fun x7_3 =>
  (lpW' laws_toStringS_l3 [(strip a0), (.obs H.length 0 x7_3.1 1), (.int .i64 0)] (H ++ [repV x7_3.2 [(.str [])]])).bind fun r24 =>
  inN r24.1 [
  gotV 1 r24.2.1 fun v25 =>
  some ((v25 0), r24.2.2)] := (callV_eq vb _ _ _ rfl).trans (by kernel_rfl)

/-! loop.example/mailwire/spec.BoxesSame : kind 1, moves [] -/
noncomputable def spec_BoxesSame_l9 : List V → VH → Option (Option Nat × List V × VH) := roundV (vb.ctx cv lpW') (vb.b.ann 21) (vb.takes 21) ⟨⟨[0, 1, 5, 6], [], []⟩, [(.exit 2, ⟨[0, 1, 5], [], []⟩), (.ret, ⟨[4], [], []⟩)]⟩ (loopIn Try.f21 9)
noncomputable def spec_BoxesSame_l4 : List V → VH → Option (Option Nat × List V × VH) := roundV (vb.ctx cv lpW') (vb.b.ann 21) (vb.takes 21) ⟨⟨[0, 1, 5], [], []⟩, [(.exit 0, ⟨[], [], []⟩), (.ret, ⟨[4], [], []⟩)]⟩ (loopIn Try.f21 4)
theorem spec_BoxesSame_l9_eq (v0 v1 v2 v3 : V) (H : VH) : spec_BoxesSame_l9 [v0, v1, v2, v3] H =
  (vIdxV 2 v0 v2).bind fun x47_52 =>
  (vOffV x47_52 1).bind fun x48_53 =>
  (ldO globB false false 1 x48_53 H).bind fun r55 =>
  (vLenVV r55.1).bind fun x50_56 =>
  (vBinV (.int .i64) .lss v3 x50_56).bind fun x51_57 =>
  ifVV x51_57 (
  (vIdxV 2 (strip v0) (strip v2)).bind fun x56_60 =>
  (vOffV x56_60 1).bind fun x57_61 =>
  (ldO globB false false 1 x57_61 r55.2).bind fun r63 =>
  (vIdxV 3 r63.1 (strip v3)).bind fun x60_65 =>
  (ldO globB false true 3 x60_65 r63.2).bind fun r67 =>
  (vIdxV 2 v1 (strip (strip v2))).bind fun x64_70 =>
  (vOffV x64_70 1).bind fun x65_71 =>
  (ldO globB false false 1 x65_71 r67.2).bind fun r73 =>
  (vIdxV 3 r73.1 (strip (strip v3))).bind fun x68_75 =>
  (ldO globB false true 3 x68_75 r73.2).bind fun r77 =>
  (qc id_spec_MailSame [(frz r77.2 r67.1), (frz r77.2 r77.1)]).bind fun x70_78 =>
  (vUnV .not x70_78).bind fun x71_79 =>
  ifVV x71_79 (
  some (some 1, [(.bool false)], r77.2)) (
  (vBinV (.int .i64) .add (strip (strip (strip v3))) (.int .i64 1)).bind fun x53_82 =>
  some (none, [(strip (strip v0)), (strip v1), (strip (strip (strip v2))), x53_82], r77.2))) (
  some (some 0, [(strip v0), v1, (strip v2)], r55.2)) := by kernel_rfl
theorem spec_BoxesSame_l4_eq (v0 v1 v2 : V) (H : VH) : spec_BoxesSame_l4 [v0, v1, v2] H =
  (vLenVV v0).bind fun x14_10 =>
  (vBinV (.int .i64) .lss v2 x14_10).bind fun x15_11 =>
  ifVV x15_11 (
  (id (
  (id (
  (vIdxV 2 (strip v0) (strip v2)).bind fun x20_14 =>
  (vOffV x20_14 0).bind fun x21_15 =>
  (ldO globB false false 1 x21_15 H).bind fun r17 =>
  (vIdxV 2 v1 (strip (strip v2))).bind fun x25_20 =>
  (vOffV x25_20 0).bind fun x26_21 =>
  (ldO globB false false 1 x26_21 r17.2).bind fun r23 =>
  (vBinV .str .neq r17.1 r23.1).bind fun x28_24 =>
  ifVV x28_24 (
  some (0, [(.bool false)], r23.2)) (
  (vIdxV 2 (strip (strip v0)) (strip (strip (strip v2)))).bind fun x32_30 =>
  (vOffV x32_30 1).bind fun x33_31 =>
  (ldO globB false false 1 x33_31 r23.2).bind fun r33 =>
  (vLenVV r33.1).bind fun x35_34 =>
  (vIdxV 2 (strip v1) (strip (strip (strip (strip v2))))).bind fun x38_37 =>
  (vOffV x38_37 1).bind fun x39_38 =>
  (ldO globB false false 1 x39_38 r33.2).bind fun r40 =>
  (vLenVV r40.1).bind fun x41_41 =>
  (vBinV (.int .i64) .neq x35_34 x41_41).bind fun x42_42 =>
  ifVV x42_42 (
  some (0, [(.bool false)], r40.2)) (
  some (1, [(strip (strip (strip v0))), (strip (strip v1)), (strip (strip (strip (strip (strip v2)))))], r40.2))) : Option (Nat × List V × VH))).bind fun r45 =>
  inN r45.1 [
  gotV 1 r45.2.1 fun v46 =>
  some (0, [(v46 0)], r45.2.2),
  gotV 3 r45.2.1 fun v47 =>
  (lpW' spec_BoxesSame_l9 [(v47 0), (v47 1), (v47 2), (.int .i64 0)] r45.2.2).bind fun r84 =>
  inN r84.1 [
  gotV 3 r84.2.1 fun v85 =>
  some (1, [(v85 0), (v85 1), (v85 2)], r84.2.2),
  gotV 1 r84.2.1 fun v86 =>
  some (0, [(v86 0)], r84.2.2)]] : Option (Nat × List V × VH))).bind fun r87 =>
  inN r87.1 [
  gotV 1 r87.2.1 fun v88 =>
  some (some 1, [(v88 0)], r87.2.2),
  gotV 3 r87.2.1 fun v89 =>
  (vBinV (.int .i64) .add (v89 2) (.int .i64 1)).bind fun x17_91 =>
  some (none, [(v89 0), (v89 1), x17_91], r87.2.2)]) (
  some (some 0, [], H)) := by kernel_rfl
theorem spec_BoxesSame_eq (a0 a1 : V) (H : VH) : cv id_spec_BoxesSame [a0, a1] H =
  (vLenVV a0).bind fun x8_2 =>
  (vLenVV a1).bind fun x10_4 =>
  (vBinV (.int .i64) .neq x8_2 x10_4).bind fun x11_5 =>
  ifVV x11_5 (
  some ((.bool false), H)) (
  (lpW' spec_BoxesSame_l4 [(strip a0), (strip a1), (.int .i64 0)] H).bind fun r93 =>
  inN r93.1 [
  gotV 0 r93.2.1 fun v94 =>
  some ((.bool true), r93.2.2),
  gotV 1 r93.2.1 fun v96 =>
  some ((v96 0), r93.2.2)]) := (callV_eq vb _ _ _ rfl).trans (by kernel_rfl)

/-! loop.example/mailwire/spec.MailSame : kind 1, moves [] -/
theorem spec_MailSame_eq (a0 a1 : V) (H : VH) : cv id_spec_MailSame [a0, a1] H =
  (aggNV 3 a0).bind fun c1 =>
  (aggNV 3 a1).bind fun c3 =>
  (vBinV .str .eql (strip (c1.getD 0 .nilp)) (strip (c3.getD 0 .nilp))).bind fun x9_9 =>
  ifVV x9_9 (
  (qc id_spec_l10Texts [(frz H (strip (c1.getD 1 .nilp))), (frz H (strip (c3.getD 1 .nilp)))]).bind fun x15_15 =>
  ifVV x15_15 (
  (qc id_spec_l10Texts [(frz H (strip (c1.getD 2 .nilp))), (frz H (strip (c3.getD 2 .nilp)))]).bind fun x22_22 =>
  some (x22_22, H)) (
  some ((.bool false), H))) (
  some ((.bool false), H)) := (callV_eq vb _ _ _ rfl).trans (by kernel_rfl)

/-! loop.example/mailwire/spec.l10Texts : kind 1, moves [] -/
noncomputable def spec_l10Texts_l4 : List V → VH → Option (Option Nat × List V × VH) := roundV (vb.ctx cv lpW') (vb.b.ann 28) (vb.takes 28) ⟨⟨[0, 1, 5], [], []⟩, [(.exit 0, ⟨[], [], []⟩), (.ret, ⟨[4], [], []⟩)]⟩ (loopIn Try.f28 4)
theorem spec_l10Texts_l4_eq (v0 v1 v2 : V) (H : VH) : spec_l10Texts_l4 [v0, v1, v2] H =
  (vLenVV v0).bind fun x13_10 =>
  (vBinV (.int .i64) .lss v2 x13_10).bind fun x14_11 =>
  ifVV x14_11 (
  (vIdxV 1 (strip v0) (strip v2)).bind fun x19_14 =>
  (ldO globB false false 1 x19_14 H).bind fun r16 =>
  (vIdxV 1 v1 (strip (strip v2))).bind fun x23_19 =>
  (ldO globB false false 1 x23_19 r16.2).bind fun r21 =>
  (vBinV .str .neq r16.1 r21.1).bind fun x25_22 =>
  ifVV x25_22 (
  some (some 1, [(.bool false)], r21.2)) (
  (vBinV (.int .i64) .add (strip (strip (strip v2))) (.int .i64 1)).bind fun x16_25 =>
  some (none, [(strip (strip v0)), (strip v1), x16_25], r21.2))) (
  some (some 0, [], H)) := by kernel_rfl
theorem spec_l10Texts_eq (a0 a1 : V) (H : VH) : cv id_spec_l10Texts [a0, a1] H =
  (vLenVV a0).bind fun x7_2 =>
  (vLenVV a1).bind fun x9_4 =>
  (vBinV (.int .i64) .neq x7_2 x9_4).bind fun x10_5 =>
  ifVV x10_5 (
  some ((.bool false), H)) (
  (lpW' spec_l10Texts_l4 [(strip a0), (strip a1), (.int .i64 0)] H).bind fun r27 =>
  inN r27.1 [
  gotV 0 r27.2.1 fun v28 =>
  some ((.bool true), r27.2.2),
  gotV 1 r27.2.1 fun v30 =>
  some ((v30 0), r27.2.2)]) := (callV_eq vb _ _ _ rfl).trans (by kernel_rfl)

/-! loop.example/mailwire/impl.BoxesSame : kind 1, moves [] -/
theorem impl_BoxesSame_eq (a0 a1 : V) (H : VH) : cv id_impl_BoxesSame [a0, a1] H =
  (qc id_slices_EqualFunc___impl_Box___impl_Box_impl_Box_impl_Box_ [(frz H a0), (frz H a1), (frz H (.fn id_impl_BoxesSame_1 []))]).bind fun x7_3 =>
  some (x7_3, H) := (callV_eq vb _ _ _ rfl).trans (by kernel_rfl)

/-! slices.EqualFunc[[]loop.example/mailwire/impl.Box,[]loop.example/mailwire/impl.Box,loop.example/mailwire/impl.Box,loop.example/mailwire/impl.Box] : kind 1, moves [] -/
noncomputable def slices_EqualFunc___impl_Box___impl_Box_impl_Box_impl_Box__l4 : List V → VH → Option (Option Nat × List V × VH) := roundV (vb.ctx cv lpW') (vb.b.ann 38) (vb.takes 38) ⟨⟨[1, 2, 15, 16, 17], [], []⟩, [(.exit 0, ⟨[], [], []⟩), (.ret, ⟨[6], [], []⟩)]⟩ (loopIn Try.f38 4)
theorem slices_EqualFunc___impl_Box___impl_Box_impl_Box_impl_Box__l4_eq (v0 v1 v2 v3 v4 : V) (H : VH) : slices_EqualFunc___impl_Box___impl_Box_impl_Box_impl_Box__l4 [v0, v1, v2, v3, v4] H =
  (vBinV (.int .i64) .lss v4 v3).bind fun x18_10 =>
  ifVV x18_10 (
  (vIdxV 2 v2 (strip v4)).bind fun x20_12 =>
  (ldO globB false true 2 x20_12 H).bind fun r14 =>
  (aggNV 2 r14.1).bind fun c18 =>
  (vIdxV 2 v0 v4).bind fun x24_21 =>
  (ldO globB false true 2 x24_21 r14.2).bind fun r23 =>
  (aggNV 2 r23.1).bind fun c26 =>
  (calleeV v1).bind fun p31 =>
  (qc p31.1 ((([(.agg [(strip (c18.getD 0 .nilp)), (strip (c18.getD 1 .nilp))]), (.agg [(strip (c26.getD 0 .nilp)), (strip (c26.getD 1 .nilp))])] : List V) ++ p31.2).map (frz r23.2))).bind fun x29_30 =>
  (vUnV .not x29_30).bind fun x30_32 =>
  ifVV x30_32 (
  some (some 1, [(.bool false)], r23.2)) (
  (vBinV (.int .i64) .add (strip v4) (.int .i64 1)).bind fun x31_34 =>
  some (none, [(strip v0), (strip v1), v2, v3, x31_34], r23.2))) (
  some (some 0, [], H)) := by kernel_rfl
theorem slices_EqualFunc___impl_Box___impl_Box_impl_Box_impl_Box__eq (a0 a1 a2 : V) (H : VH) : cv id_slices_EqualFunc___impl_Box___impl_Box_impl_Box_impl_Box_ [a0, a1, a2] H =
  (vLenVV a0).bind fun x11_2 =>
  (vLenVV a1).bind fun x13_4 =>
  (vBinV (.int .i64) .neq x11_2 x13_4).bind fun x14_5 =>
  ifVV x14_5 (
  some ((.bool false), H)) (
  (vLenVV (strip a0)).bind fun x16_8 =>
  (lpW' slices_EqualFunc___impl_Box___impl_Box_impl_Box_impl_Box__l4 [(strip a1), a2, (strip a0), x16_8, (.int .i64 0)] H).bind fun r36 =>
  inN r36.1 [
  gotV 0 r36.2.1 fun v37 =>
  some ((.bool true), r36.2.2),
  gotV 1 r36.2.1 fun v39 =>
  some ((v39 0), r36.2.2)]) := (callV_eq vb _ _ _ rfl).trans (by kernel_rfl)

/-! loop.example/mailwire/impl.BoxesSame$1 : kind 1, moves [] -/
theorem impl_BoxesSame_1_eq (a0 a1 : V) (H : VH) : cv id_impl_BoxesSame_1 [a0, a1] H =
  (aggNV 2 a0).bind fun c1 =>
  (aggNV 2 a1).bind fun c3 =>
  (vBinV .str .eql (strip (c1.getD 0 .nilp)) (strip (c3.getD 0 .nilp))).bind fun x9_9 =>
  ifVV x9_9 (
  (qc id_slices_EqualFunc___impl_Mail___impl_Mail_impl_Mail_impl_Mail_ [(frz H (strip (c1.getD 1 .nilp))), (frz H (strip (c3.getD 1 .nilp))), (frz H (.fn id_impl_MailSame []))]).bind fun x15_15 =>
  some (x15_15, H)) (
  some ((.bool false), H)) := (callV_eq vb _ _ _ rfl).trans (by kernel_rfl)

/-! slices.EqualFunc[[]loop.example/mailwire/impl.Mail,[]loop.example/mailwire/impl.Mail,loop.example/mailwire/impl.Mail,loop.example/mailwire/impl.Mail] : kind 1, moves [] -/
noncomputable def slices_EqualFunc___impl_Mail___impl_Mail_impl_Mail_impl_Mail__l4 : List V → VH → Option (Option Nat × List V × VH) := roundV (vb.ctx cv lpW') (vb.b.ann 34) (vb.takes 34) ⟨⟨[1, 2, 15, 16, 17], [], []⟩, [(.exit 0, ⟨[], [], []⟩), (.ret, ⟨[6], [], []⟩)]⟩ (loopIn Try.f34 4)
theorem slices_EqualFunc___impl_Mail___impl_Mail_impl_Mail_impl_Mail__l4_eq (v0 v1 v2 v3 v4 : V) (H : VH) : slices_EqualFunc___impl_Mail___impl_Mail_impl_Mail_impl_Mail__l4 [v0, v1, v2, v3, v4] H =
  (vBinV (.int .i64) .lss v4 v3).bind fun x18_10 =>
  ifVV x18_10 (
  (vIdxV 3 v2 (strip v4)).bind fun x20_12 =>
  (ldO globB false true 3 x20_12 H).bind fun r14 =>
  (aggNV 3 r14.1).bind fun c18 =>
  (vIdxV 3 v0 v4).bind fun x24_21 =>
  (ldO globB false true 3 x24_21 r14.2).bind fun r23 =>
  (aggNV 3 r23.1).bind fun c26 =>
  (calleeV v1).bind fun p31 =>
  (qc p31.1 ((([(.agg [(strip (c18.getD 0 .nilp)), (strip (c18.getD 1 .nilp)), (strip (c18.getD 2 .nilp))]), (.agg [(strip (c26.getD 0 .nilp)), (strip (c26.getD 1 .nilp)), (strip (c26.getD 2 .nilp))])] : List V) ++ p31.2).map (frz r23.2))).bind fun x29_30 =>
  (vUnV .not x29_30).bind fun x30_32 =>
  ifVV x30_32 (
  some (some 1, [(.bool false)], r23.2)) (
  (vBinV (.int .i64) .add (strip v4) (.int .i64 1)).bind fun x31_34 =>
  some (none, [(strip v0), (strip v1), v2, v3, x31_34], r23.2))) (
  some (some 0, [], H)) := by kernel_rfl
theorem slices_EqualFunc___impl_Mail___impl_Mail_impl_Mail_impl_Mail__eq (a0 a1 a2 : V) (H : VH) : cv id_slices_EqualFunc___impl_Mail___impl_Mail_impl_Mail_impl_Mail_ [a0, a1, a2] H =
  (vLenVV a0).bind fun x11_2 =>
  (vLenVV a1).bind fun x13_4 =>
  (vBinV (.int .i64) .neq x11_2 x13_4).bind fun x14_5 =>
  ifVV x14_5 (
  some ((.bool false), H)) (
  (vLenVV (strip a0)).bind fun x16_8 =>
  (lpW' slices_EqualFunc___impl_Mail___impl_Mail_impl_Mail_impl_Mail__l4 [(strip a1), a2, (strip a0), x16_8, (.int .i64 0)] H).bind fun r36 =>
  inN r36.1 [
  gotV 0 r36.2.1 fun v37 =>
  some ((.bool true), r36.2.2),
  gotV 1 r36.2.1 fun v39 =>
  some ((v39 0), r36.2.2)]) := (callV_eq vb _ _ _ rfl).trans (by kernel_rfl)

/-! loop.example/mailwire/impl.MailSame : kind 1, moves [] -/
theorem impl_MailSame_eq (a0 a1 : V) (H : VH) : cv id_impl_MailSame [a0, a1] H =
  (aggNV 3 a0).bind fun c1 =>
  (aggNV 3 a1).bind fun c3 =>
  (vBinV .str .eql (strip (c1.getD 0 .nilp)) (strip (c3.getD 0 .nilp))).bind fun x9_9 =>
  ifVV x9_9 (
  (qc id_slices_Equal___string_string_ [(frz H (strip (c1.getD 1 .nilp))), (frz H (strip (c3.getD 1 .nilp)))]).bind fun x15_15 =>
  ifVV x15_15 (
  (qc id_slices_Equal___string_string_ [(frz H (strip (c1.getD 2 .nilp))), (frz H (strip (c3.getD 2 .nilp)))]).bind fun x22_22 =>
  some (x22_22, H)) (
  some ((.bool false), H))) (
  some ((.bool false), H)) := (callV_eq vb _ _ _ rfl).trans (by kernel_rfl)

/-! slices.Equal[[]string,string] : kind 1, moves [] -/
noncomputable def slices_Equal___string_string__l4 : List V → VH → Option (Option Nat × List V × VH) := roundV (vb.ctx cv lpW') (vb.b.ann 30) (vb.takes 30) ⟨⟨[0, 1, 12, 13], [], []⟩, [(.exit 0, ⟨[], [], []⟩), (.ret, ⟨[4], [], []⟩)]⟩ (loopIn Try.f30 4)
theorem slices_Equal___string_string__l4_eq (v0 v1 v2 v3 : V) (H : VH) : slices_Equal___string_string__l4 [v0, v1, v2, v3] H =
  (vBinV (.int .i64) .lss v3 v2).bind fun x14_10 =>
  ifVV x14_10 (
  (vIdxV 1 v0 v3).bind fun x18_15 =>
  (ldO globB false false 1 x18_15 H).bind fun r17 =>
  (vIdxV 1 v1 (strip v3)).bind fun x22_20 =>
  (ldO globB false false 1 x22_20 r17.2).bind fun r22 =>
  (vBinV .str .neq r17.1 r22.1).bind fun x24_23 =>
  ifVV x24_23 (
  some (some 1, [(.bool false)], r22.2)) (
  (vBinV (.int .i64) .add (strip v3) (.int .i64 1)).bind fun x25_25 =>
  some (none, [(strip v0), (strip v1), v2, x25_25], r22.2))) (
  some (some 0, [], H)) := by kernel_rfl
theorem slices_Equal___string_string__eq (a0 a1 : V) (H : VH) : cv id_slices_Equal___string_string_ [a0, a1] H =
  (vLenVV a0).bind fun x7_2 =>
  (vLenVV a1).bind fun x9_4 =>
  (vBinV (.int .i64) .neq x7_2 x9_4).bind fun x10_5 =>
  ifVV x10_5 (
  some ((.bool false), H)) (
  (vLenVV (strip a0)).bind fun x12_8 =>
  (lpW' slices_Equal___string_string__l4 [(strip (strip a0)), (strip a1), x12_8, (.int .i64 0)] H).bind fun r27 =>
  inN r27.1 [
  gotV 0 r27.2.1 fun v28 =>
  some ((.bool true), r27.2.2),
  gotV 1 r27.2.1 fun v30 =>
  some ((v30 0), r27.2.2)]) := (callV_eq vb _ _ _ rfl).trans (by kernel_rfl)

/-! loop.example/mailwire/laws.eqBoxS : kind 1, moves [] -/
noncomputable def laws_eqBoxS_l4 : List V → VH → Option (Option Nat × List V × VH) := roundV (vb.ctx cv lpW') (vb.b.ann 24) (vb.takes 24) ⟨⟨[0, 1, 5], [], []⟩, [(.exit 0, ⟨[], [], []⟩), (.ret, ⟨[4], [], []⟩)]⟩ (loopIn Try.f24 4)
theorem laws_eqBoxS_l4_eq (v0 v1 v2 : V) (H : VH) : laws_eqBoxS_l4 [v0, v1, v2] H =
  (vLenVV v0).bind fun x13_10 =>
  (vBinV (.int .i64) .lss v2 x13_10).bind fun x14_11 =>
  ifVV x14_11 (
  (vIdxV 2 (strip v0) (strip v2)).bind fun x19_14 =>
  (ldO globB false true 2 x19_14 H).bind fun r16 =>
  (vIdxV 2 v1 (strip (strip v2))).bind fun x23_19 =>
  (ldO globB false true 2 x23_19 r16.2).bind fun r21 =>
  (qc id_laws_eqBox [(frz r21.2 r16.1), (frz r21.2 r21.1)]).bind fun x25_22 =>
  (vUnV .not x25_22).bind fun x26_23 =>
  ifVV x26_23 (
  some (some 1, [(.bool false)], r21.2)) (
  (vBinV (.int .i64) .add (strip (strip (strip v2))) (.int .i64 1)).bind fun x16_26 =>
  some (none, [(strip (strip v0)), (strip v1), x16_26], r21.2))) (
  some (some 0, [], H)) := by kernel_rfl
theorem laws_eqBoxS_eq (a0 a1 : V) (H : VH) : cv id_laws_eqBoxS [a0, a1] H =
  (vLenVV a0).bind fun x7_2 =>
  (vLenVV a1).bind fun x9_4 =>
  (vBinV (.int .i64) .neq x7_2 x9_4).bind fun x10_5 =>
  ifVV x10_5 (
  some ((.bool false), H)) (
  (lpW' laws_eqBoxS_l4 [(strip a0), (strip a1), (.int .i64 0)] H).bind fun r28 =>
  inN r28.1 [
  gotV 0 r28.2.1 fun v29 =>
  some ((.bool true), r28.2.2),
  gotV 1 r28.2.1 fun v31 =>
  some ((v31 0), r28.2.2)]) := (callV_eq vb _ _ _ rfl).trans (by kernel_rfl)

/-! loop.example/mailwire/laws.eqBox : kind 1, moves [] -/
theorem laws_eqBox_eq (a0 a1 : V) (H : VH) : cv id_laws_eqBox [a0, a1] H =
  (aggNV 2 a0).bind fun c1 =>
  (aggNV 2 a1).bind fun c3 =>
  (vBinV .str .neq (strip (c1.getD 0 .nilp)) (strip (c3.getD 0 .nilp))).bind fun x9_9 =>
  ifVV x9_9 (
  some ((.bool false), H)) (
  (qc id_laws_eqMailS [(frz H (strip (c1.getD 1 .nilp))), (frz H (strip (c3.getD 1 .nilp)))]).bind fun x14_15 =>
  (vUnV .not x14_15).bind fun x15_16 =>
  ifVV x15_16 (
  some ((.bool false), H)) (
  some ((.bool true), H))) := (callV_eq vb _ _ _ rfl).trans (by kernel_rfl)

/-! loop.example/mailwire/laws.eqMailS : kind 1, moves [] -/
noncomputable def laws_eqMailS_l4 : List V → VH → Option (Option Nat × List V × VH) := roundV (vb.ctx cv lpW') (vb.b.ann 35) (vb.takes 35) ⟨⟨[0, 1, 5], [], []⟩, [(.exit 0, ⟨[], [], []⟩), (.ret, ⟨[4], [], []⟩)]⟩ (loopIn Try.f35 4)
theorem laws_eqMailS_l4_eq (v0 v1 v2 : V) (H : VH) : laws_eqMailS_l4 [v0, v1, v2] H =
  (vLenVV v0).bind fun x13_10 =>
  (vBinV (.int .i64) .lss v2 x13_10).bind fun x14_11 =>
  ifVV x14_11 (
  (vIdxV 3 (strip v0) (strip v2)).bind fun x19_14 =>
  (ldO globB false true 3 x19_14 H).bind fun r16 =>
  (vIdxV 3 v1 (strip (strip v2))).bind fun x23_19 =>
  (ldO globB false true 3 x23_19 r16.2).bind fun r21 =>
  (qc id_laws_eqMail [(frz r21.2 r16.1), (frz r21.2 r21.1)]).bind fun x25_22 =>
  (vUnV .not x25_22).bind fun x26_23 =>
  ifVV x26_23 (
  some (some 1, [(.bool false)], r21.2)) (
  (vBinV (.int .i64) .add (strip (strip (strip v2))) (.int .i64 1)).bind fun x16_26 =>
  some (none, [(strip (strip v0)), (strip v1), x16_26], r21.2))) (
  some (some 0, [], H)) := by kernel_rfl
theorem laws_eqMailS_eq (a0 a1 : V) (H : VH) : cv id_laws_eqMailS [a0, a1] H =
  (vLenVV a0).bind fun x7_2 =>
  (vLenVV a1).bind fun x9_4 =>
  (vBinV (.int .i64) .neq x7_2 x9_4).bind fun x10_5 =>
  ifVV x10_5 (
  some ((.bool false), H)) (
  (lpW' laws_eqMailS_l4 [(strip a0), (strip a1), (.int .i64 0)] H).bind fun r28 =>
  inN r28.1 [
  gotV 0 r28.2.1 fun v29 =>
  some ((.bool true), r28.2.2),
  gotV 1 r28.2.1 fun v31 =>
  some ((v31 0), r28.2.2)]) := (callV_eq vb _ _ _ rfl).trans (by kernel_rfl)

/-! loop.example/mailwire/laws.eqMail : kind 1, moves [] -/
theorem laws_eqMail_eq (a0 a1 : V) (H : VH) : cv id_laws_eqMail [a0, a1] H =
  (aggNV 3 a0).bind fun c1 =>
  (aggNV 3 a1).bind fun c3 =>
  (vBinV .str .neq (strip (c1.getD 0 .nilp)) (strip (c3.getD 0 .nilp))).bind fun x9_9 =>
  ifVV x9_9 (
  some ((.bool false), H)) (
  (qc id_laws_eqStringS [(frz H (strip (c1.getD 1 .nilp))), (frz H (strip (c3.getD 1 .nilp)))]).bind fun x14_15 =>
  (vUnV .not x14_15).bind fun x15_16 =>
  ifVV x15_16 (
  some ((.bool false), H)) (
  (qc id_laws_eqStringS [(frz H (strip (c1.getD 2 .nilp))), (frz H (strip (c3.getD 2 .nilp)))]).bind fun x20_22 =>
  (vUnV .not x20_22).bind fun x21_23 =>
  ifVV x21_23 (
  some ((.bool false), H)) (
  some ((.bool true), H)))) := (callV_eq vb _ _ _ rfl).trans (by kernel_rfl)

/-! loop.example/mailwire/laws.eqStringS : kind 1, moves [] -/
noncomputable def laws_eqStringS_l4 : List V → VH → Option (Option Nat × List V × VH) := roundV (vb.ctx cv lpW') (vb.b.ann 31) (vb.takes 31) ⟨⟨[0, 1, 5], [], []⟩, [(.exit 0, ⟨[], [], []⟩), (.ret, ⟨[4], [], []⟩)]⟩ (loopIn Try.f31 4)
theorem laws_eqStringS_l4_eq (v0 v1 v2 : V) (H : VH) : laws_eqStringS_l4 [v0, v1, v2] H =
  (vLenVV v0).bind fun x13_10 =>
  (vBinV (.int .i64) .lss v2 x13_10).bind fun x14_11 =>
  ifVV x14_11 (
  (vIdxV 1 (strip v0) (strip v2)).bind fun x19_14 =>
  (ldO globB false false 1 x19_14 H).bind fun r16 =>
  (vIdxV 1 v1 (strip (strip v2))).bind fun x23_19 =>
  (ldO globB false false 1 x23_19 r16.2).bind fun r21 =>
  (vBinV .str .neq r16.1 r21.1).bind fun x25_22 =>
  ifVV x25_22 (
  some (some 1, [(.bool false)], r21.2)) (
  (vBinV (.int .i64) .add (strip (strip (strip v2))) (.int .i64 1)).bind fun x16_25 =>
  some (none, [(strip (strip v0)), (strip v1), x16_25], r21.2))) (
  some (some 0, [], H)) := by kernel_rfl
theorem laws_eqStringS_eq (a0 a1 : V) (H : VH) : cv id_laws_eqStringS [a0, a1] H =
  (vLenVV a0).bind fun x7_2 =>
  (vLenVV a1).bind fun x9_4 =>
  (vBinV (.int .i64) .neq x7_2 x9_4).bind fun x10_5 =>
  ifVV x10_5 (
  some ((.bool false), H)) (
  (lpW' laws_eqStringS_l4 [(strip a0), (strip a1), (.int .i64 0)] H).bind fun r27 =>
  inN r27.1 [
  gotV 0 r27.2.1 fun v28 =>
  some ((.bool true), r27.2.2),
  gotV 1 r27.2.1 fun v30 =>
  some ((v30 0), r27.2.2)]) := (callV_eq vb _ _ _ rfl).trans (by kernel_rfl)

end Go.Proofs.Ytgpfabgnlpdpdaa.Q
