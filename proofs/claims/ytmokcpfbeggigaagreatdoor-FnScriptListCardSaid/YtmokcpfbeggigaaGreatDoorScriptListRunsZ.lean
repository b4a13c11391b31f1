/- What a call of each function comes to. -/
import Derived.Test.YtmokcpfbeggigaaGreatDoorScriptListBaseZ
namespace Go.Proofs.YtmokcpfbeggigaaGreatDoor.Q
open Go Go.AM Go.Proofs
set_option linter.unusedVariables false
set_option maxRecDepth 100000
theorem agD (a0:V) (H:VH):cv Z7 [a0] H =
 (D2 (strip a0)).bind fun x2 =>
 (a8 (.int .i64) .gtr x2 (.int .i64 1048576)).bind fun x3 =>
 j9 x3 (
 some ((.bool true),H)) (
 (cv V8 [a0] H).bind fun r7 =>
 (qco P6 r7.2 [(strip (strip r7.1))]).bind fun x10 =>
 (id (
 (qco K9 r7.2 [(strip (strip r7.1))]).bind fun x14 =>
 (a8 .str .neq x10 x14).bind fun x15 =>
 l7 x15 (
 (qco K9 r7.2 [(strip (strip r7.1))]).bind fun x20 =>
 (a8 .str .eql (strip x10) x20).bind fun x21 =>
 some (0,[x21],r7.2)) (
 (a8 .str .eql (strip x10) (.str [])).bind fun x24 =>
 j9 x24 (
 (qco K9 r7.2 [(strip (strip r7.1))]).bind fun x28 =>
 (a8 .str .eql (strip (strip x10)) x28).bind fun x29 =>
 some (0,[x29],r7.2)) (
 some (1,[(strip (strip x10))],r7.2))):Option (Nat × List V × VH))).bind fun r31 =>
 A2 r31.1 [
 l4 1 r31.2.1 fun v32 =>
 some ((v32 0),r31.2.2),
 l4 1 r31.2.1 fun v33 =>
 (a8 .str .add (.str [108,105,115,116,32]) (v33 0)).bind fun x35 =>
 (a8 .str .add x35 (.str [10])).bind fun x36 =>
 (qco G0 r31.2.2 [x36]).bind fun x37 =>
 (a8 .str .add (.str [61,32]) (strip (v33 0))).bind fun x39 =>
 (a8 .str .add x39 (.str [10])).bind fun x40 =>
 (a8 .str .eql x37 x40).bind fun x41 =>
 some (x41,r31.2.2)]):=(j7 vb _ _ _ rfl).trans (by kernel_rfl)
theorem afz (a0:V) (H:VH):cv V8 [a0] H =
 (cv aaA [a0] H).bind fun r3 =>
 (cv acH [(strip r3.1)] r3.2).bind fun r5 =>
 some (r5.1,r5.2):=(j7 vb _ _ _ rfl).trans (by kernel_rfl)
theorem akE (a0:V) (H:VH):cv aaA [a0] H =
 (id (
 (D2 (strip a0)).bind fun x2 =>
 (a8 (.int .i64) .gtr x2 (.int .i64 2000)).bind fun x3 =>
 j9 x3 (
 (V6 1 (strip a0) none (some (.int .i64 2000))).bind fun x5 =>
 some (0,[x5],H)) (
 some (0,[a0],H)):Option (Nat × List V × VH))).bind fun r7 =>
 A2 r7.1 [
 l4 1 r7.2.1 fun v8 =>
 (B4 (v8 0)).bind fun y11 =>
 some ((.ptr r7.2.2.length 0),(r7.2.2++[[y11,(.int .i64 0)]]))]:=(j7 vb _ _ _ rfl).trans (by kernel_rfl)
theorem amy (a0:V) (H:VH):cv acH [a0] H =
 (cv ac1 [(strip a0)] H).bind fun r3 =>
 (D2 (strip r3.1)).bind fun x6 =>
 (a8 (.int .i64) .gtr x6 (.int .i64 0)).bind fun x7 =>
 j9 x7 (
 (D2 (strip r3.1)).bind fun x10 =>
 (cv I3 [(strip (strip a0)),(strip x10)] r3.2).bind fun r12 =>
 (E1 3 (strip r3.1) (strip r12.1)).bind fun x19 =>
 (G7 C4 false true 3 x19 r12.2).bind fun r21 =>
 (cv acp [(strip (strip (strip a0))),(strip r21.1)] r21.2).bind fun r23 =>
 (E1 3 (strip r3.1) r12.1).bind fun x24 =>
 (F8 3 r23.1).bind fun c26 =>
 (stO x24 [(c26.getD 0 .b7),(c26.getD 1 .b7),(c26.getD 2 .b7)] r23.2).bind fun H27 =>
 some (r3.1,H27)) (
 some (r3.1,r3.2)):=(j7 vb _ _ _ rfl).trans (by kernel_rfl)
noncomputable def afZ:List V->VH->Option (Option Nat × List V × VH):=C0 (vb.ctx cv o6) (vb.b.I0 72) (vb.C3 72) ⟨⟨[0,3,4],[],[]⟩,[(.exit 0,⟨[3],[],[]⟩)]⟩ (B9 Tryz.f72 3)
theorem ai8 (v0 v1 v2:V) (H:VH):afZ [v0,v1,v2] H =
 (a8 (.int .i64) .gtr v2 (.int .i64 0)).bind fun x9 =>
 j9 x9 (
 (cv acZ [(strip v0)] H).bind fun r13 =>
 (F8 3 r13.1).bind fun c15 =>
 (ajI true false 3 48 v1 (.sl true [[(c15.getD 0 .b7),(c15.getD 1 .b7),(c15.getD 2 .b7)]]) r13.2).bind fun r17 =>
 (a8 (.int .i64) .sub (strip v2) (.int .i64 1)).bind fun x20 =>
 some (none,[(strip v0),r17.1,x20],r17.2)) (
 some (some 0,[v1],H)):=by kernel_rfl
theorem amq (a0:V) (H:VH):cv ac1 [a0] H =
 (cv W4 [(strip a0),(.sl false (o9 [[(.int .i64 2)],[(.int .i64 3)],[(.int .i64 1)],[(.int .i64 0)],[(.int .i64 4)]]))] H).bind fun r6 =>
 (o6 afZ [(strip a0),(.sl true []),r6.1] r6.2).bind fun r22 =>
 A2 r22.1 [
 l4 1 r22.2.1 fun v23 =>
 some ((v23 0),r22.2.2)]:=(j7 vb _ _ _ rfl).trans (by kernel_rfl)
theorem aja (a0 a1:V) (H:VH):cv W4 [a0,a1] H =
 (D2 (strip a1)).bind fun x4 =>
 (cv I3 [(strip a0),(strip x4)] H).bind fun r6 =>
 (E1 1 (strip a1) r6.1).bind fun x7 =>
 (G7 C4 false false 1 x7 r6.2).bind fun r9 =>
 some (r9.1,r9.2):=(j7 vb _ _ _ rfl).trans (by kernel_rfl)
theorem ahS (a0 a1:V) (H:VH):cv I3 [a0,a1] H =
 (R8 (strip a0)).bind fun x3 =>
 (Q2 x3 1).bind fun x4 =>
 (G7 C4 false false 1 x4 H).bind fun r6 =>
 (a8 (.int .i64) .add r6.1 (.int .i64 1)).bind fun x7 =>
 (R8 a0).bind fun x8 =>
 (Q2 x8 1).bind fun x9 =>
 (B4 x7).bind fun y11 =>
 (stO x9 [y11] r6.2).bind fun H12 =>
 (id (
 (a8 (.int .i64) .lss a1 (.int .i64 1)).bind fun x14 =>
 l7 x14 (
 some (0,[(.int .i64 0)],H12)) (
 (R8 (strip (strip a0))).bind fun x19 =>
 (Q2 x19 0).bind fun x20 =>
 (G7 C4 false false 1 x20 H12).bind fun r22 =>
 (D2 r22.1).bind fun x23 =>
 (a8 (.int .i64) .eql x23 (.int .i64 0)).bind fun x24 =>
 j9 x24 (
 some (0,[(.int .i64 0)],r22.2)) (
 some (1,[(strip (strip (strip a0))),(strip a1)],r22.2))):Option (Nat × List V × VH))).bind fun r27 =>
 A2 r27.1 [
 l4 1 r27.2.1 fun v28 =>
 some ((v28 0),r27.2.2),
 l4 2 r27.2.1 fun v29 =>
 (R8 (v29 0)).bind fun x31 =>
 (Q2 x31 1).bind fun x32 =>
 (G7 C4 false false 1 x32 r27.2.2).bind fun r34 =>
 (a8 (.int .i64) .sub r34.1 (.int .i64 1)).bind fun x35 =>
 (R8 (strip (v29 0))).bind fun x39 =>
 (Q2 x39 0).bind fun x40 =>
 (G7 C4 false false 1 x40 r34.2).bind fun r42 =>
 (D2 r42.1).bind fun x43 =>
 (a8 (.int .i64) .lss x35 x43).bind fun x44 =>
 j9 x44 (
 (R8 (strip (strip (v29 0)))).bind fun x46 =>
 (Q2 x46 0).bind fun x47 =>
 (G7 C4 false false 1 x47 r42.2).bind fun r49 =>
 (E1 1 r49.1 (strip x35)).bind fun x51 =>
 (G7 C4 false false 1 x51 r49.2).bind fun r53 =>
 (adv .i64 r53.1).bind fun x54 =>
 (a8 (.int .i64) .rem x54 (v29 1)).bind fun x56 =>
 some (x56,r53.2)) (
 (R8 (strip (strip (v29 0)))).bind fun x59 =>
 (Q2 x59 0).bind fun x60 =>
 (G7 C4 false false 1 x60 r42.2).bind fun r62 =>
 (R8 (strip (strip (strip (v29 0))))).bind fun x65 =>
 (Q2 x65 0).bind fun x66 =>
 (G7 C4 false false 1 x66 r62.2).bind fun r68 =>
 (D2 r68.1).bind fun x69 =>
 (a8 (.int .i64) .rem (strip x35) x69).bind fun x70 =>
 (E1 1 r62.1 x70).bind fun x71 =>
 (G7 C4 false false 1 x71 r68.2).bind fun r73 =>
 (adv .i64 r73.1).bind fun x74 =>
 (a8 (.int .i64) .mul x74 (.int .i64 131)).bind fun x75 =>
 (R8 (strip (strip (strip (strip (v29 0)))))).bind fun x77 =>
 (Q2 x77 0).bind fun x78 =>
 (G7 C4 false false 1 x78 r73.2).bind fun r80 =>
 (a8 (.int .i64) .mul (strip (strip x35)) (.int .i64 7)).bind fun x82 =>
 (a8 (.int .i64) .add x82 (.int .i64 3)).bind fun x83 =>
 (R8 (strip (strip (strip (strip (strip (v29 0))))))).bind fun x85 =>
 (Q2 x85 0).bind fun x86 =>
 (G7 C4 false false 1 x86 r80.2).bind fun r88 =>
 (D2 r88.1).bind fun x89 =>
 (a8 (.int .i64) .rem x83 x89).bind fun x90 =>
 (E1 1 r80.1 x90).bind fun x91 =>
 (G7 C4 false false 1 x91 r88.2).bind fun r93 =>
 (adv .i64 r93.1).bind fun x94 =>
 (a8 (.int .i64) .mul x94 (.int .i64 1117)).bind fun x95 =>
 (a8 (.int .i64) .add x75 x95).bind fun x96 =>
 (a8 (.int .i64) .mul (strip (strip (strip x35))) (.int .i64 29)).bind fun x98 =>
 (a8 (.int .i64) .add x96 x98).bind fun x99 =>
 (R8 (strip (strip (strip (strip (strip (strip (v29 0)))))))).bind fun x102 =>
 (Q2 x102 0).bind fun x103 =>
 (G7 C4 false false 1 x103 r93.2).bind fun r105 =>
 (D2 r105.1).bind fun x106 =>
 (a8 (.int .i64) .quo (strip (strip (strip (strip x35)))) x106).bind fun x107 =>
 (a8 (.int .i64) .mul x107 (.int .i64 53)).bind fun x108 =>
 (a8 (.int .i64) .add x99 x108).bind fun x109 =>
 (a8 (.int .i64) .quo (strip x109) (.int .i64 64)).bind fun x113 =>
 (a8 (.int .i64) .xor x109 x113).bind fun x114 =>
 (a8 (.int .i64) .rem x114 (v29 1)).bind fun x118 =>
 some (x118,r105.2))]:=(j7 vb _ _ _ rfl).trans (by kernel_rfl)
theorem alV (a0:V) (H:VH):cv acZ [a0] H =
 (cv E9 [(strip a0),(.sl false (o9 [[(.str [])],[(.str [65,110,110])],[(.str [65,110,110,32,76,101,101])],[(.str [])],[(.str [97,34,98])],[(.str [120,44,32,121])],[(.str [60,122,62])],[(.str [64])]]))] H).bind fun r4 =>
 (cv E9 [(strip (strip a0)),(.sl false (o9 [[(.str [97,110,110])],[(.str [97,46,98])],[(.str [98,111,98])],[(.str [120,43,121])],[(.str [111,39,110,101,105,108])],[(.str [65])]]))] r4.2).bind fun r8 =>
 (cv E9 [(strip (strip (strip a0))),(.sl false (o9 [[(.str [120,46,111,114,103])],[(.str [109,97,105,108,46,101,120,97,109,112,108,101])],[(.str [97,45,98,46,99])],[(.str [120,46,111,114,103])],[(.str [57,46,100,101])]]))] r8.2).bind fun r12 =>
 (B4 r4.1).bind fun y14 =>
 (B4 r8.1).bind fun y15 =>
 (B4 r12.1).bind fun y16 =>
 some ((.agg [y14,y15,y16]),r12.2):=(j7 vb _ _ _ rfl).trans (by kernel_rfl)
theorem aj8 (a0 a1:V) (H:VH):cv E9 [a0,a1] H =
 (D2 (strip a1)).bind fun x4 =>
 (cv I3 [(strip a0),(strip x4)] H).bind fun r6 =>
 (E1 1 (strip a1) r6.1).bind fun x7 =>
 (G7 C4 false false 1 x7 r6.2).bind fun r9 =>
 some (r9.1,r9.2):=(j7 vb _ _ _ rfl).trans (by kernel_rfl)
theorem akD (a0 a1:V) (H:VH):cv acp [a0,a1] H =
 (F8 3 a1).bind fun c1 =>
 (cv I3 [(strip a0),(.int .i64 20)] H).bind fun r5 =>
 (a8 (.int .i64) .eql r5.1 (.int .i64 0)).bind fun x6 =>
 j9 x6 (
 (cv E9 [(strip (strip a0)),(.sl false (o9 [[(.str [])],[(.str [46,97])],[(.str [97,46,46,98])],[(.str [97,32,98])],[(.str [97,64,98])]]))] r5.2).bind fun r11 =>
 (B4 r11.1).bind fun y14 =>
 some ((.agg [(strip (c1.getD 0 .b7)),(strip y14),(strip (c1.getD 2 .b7))]),r11.2)) (
 (a8 (.int .i64) .eql r5.1 (.int .i64 1)).bind fun x17 =>
 j9 x17 (
 (cv E9 [(strip (strip a0)),(.sl false (o9 [[(.str [])],[(.str [88,46,111,114,103])],[(.str [45,97])],[(.str [97,45])],[(.str [97,95,98])],[(.str [97,46,46,98])]]))] r5.2).bind fun r22 =>
 (B4 r22.1).bind fun y25 =>
 some ((.agg [(strip (c1.getD 0 .b7)),(strip (c1.getD 1 .b7)),(strip y25)]),r22.2)) (
 (a8 (.int .i64) .eql r5.1 (.int .i64 2)).bind fun x28 =>
 j9 x28 (
 (cv E9 [(strip (strip a0)),(.sl false (o9 [[(.str [10])],[(.str [97,97,97,97,97,97,97,97,97,97,97,97,97,97,97,97,97,97,97,97,97,97,97,97,97,97,97,97,97,97,97,97,97,97,97,97,97,97,97,97,97])]]))] r5.2).bind fun r33 =>
 (B4 r33.1).bind fun y36 =>
 some ((.agg [(strip y36),(strip (c1.getD 1 .b7)),(strip (c1.getD 2 .b7))]),r33.2)) (
 some ((.agg [(strip (c1.getD 0 .b7)),(strip (c1.getD 1 .b7)),(strip (c1.getD 2 .b7))]),r5.2)))):=(j7 vb _ _ _ rfl).trans (by kernel_rfl)
noncomputable def adr:List V->VH->Option (Option Nat × List V × VH):=C0 (vb.ctx cv o6) (vb.b.I0 11) (vb.C3 11) ⟨⟨[3,15,16,17],[],[]⟩,[(.exit 0,⟨[3],[],[]⟩)]⟩ (B9 Tryz.f11 5)
theorem afY (v0 v1 v2 v3:V) (H:VH):adr [v0,v1,v2,v3] H =
 (a8 (.int .i64) .lss v3 v2).bind fun x19 =>
 j9 x19 (
 (E1 3 v1 v3).bind fun x20 =>
 (G7 C4 false true 3 x20 H).bind fun r22 =>
 (F8 3 r22.1).bind fun c25 =>
 (qc Q5 [(j8 r22.2 (.agg [(strip (c25.getD 0 .b7)),(strip (c25.getD 1 .b7)),(strip (c25.getD 2 .b7))]))]).bind fun x28 =>
 (B4 x28).bind fun y30 =>
 (Z9 v0).bind fun s32 =>
 (I6 false 1 16 s32 (.sl true [[y30]])).bind fun x31 =>
 (a8 (.int .i64) .add v3 (.int .i64 1)).bind fun x34 =>
 some (none,[x31,v1,v2,x34],r22.2)) (
 some (some 0,[v0],H)):=by kernel_rfl
theorem ahQ (a0:V) (H:VH):cv P6 [a0] H =
 (id (
 (D2 (strip a0)).bind fun x2 =>
 (a8 (.int .i64) .gtr x2 (.int .i64 10)).bind fun x3 =>
 l7 x3 (
 some (0,[(.str [])],H)) (
 (qc B7 [(j8 H (strip a0)),(j8 H (.fn E6 []))]).bind fun x8 =>
 j9 x8 (
 some (0,[(.str [])],H)) (
 some (1,[a0],H))):Option (Nat × List V × VH))).bind fun r11 =>
 A2 r11.1 [
 l4 1 r11.2.1 fun v12 =>
 some ((v12 0),r11.2.2),
 l4 1 r11.2.1 fun v13 =>
 (D2 (strip (v13 0))).bind fun x17 =>
 (o6 adr [(.sl true []),(strip (v13 0)),x17,(.int .i64 0)] r11.2.2).bind fun r36 =>
 A2 r36.1 [
 l4 1 r36.2.1 fun v37 =>
 (cv aaw [(strip (strip (v37 0))),(.str [44,32])] r36.2.2).bind fun r40 =>
 (p8 r40.1).bind fun x43 =>
 (a8 (.int .i64) .gtr x43 (.int .i64 200)).bind fun x44 =>
 j9 x44 (
 some ((.str []),r40.2)) (
 some ((strip r40.1),r40.2))]]:=(j7 vb _ _ _ rfl).trans (by kernel_rfl)
theorem R7 (a0 a1:V) (H:VH):cv B7 [a0,a1] H =
 (qc C6 [(j8 H (strip a0)),(j8 H a1)]).bind fun x3 =>
 (a8 (.int .i64) .geq x3 (.int .i64 0)).bind fun x4 =>
 some (x4,H):=(j7 vb _ _ _ rfl).trans (by kernel_rfl)
noncomputable def z7:List V->VH->Option (Option Nat × List V × VH):=C0 (vb.ctx cv o6) (vb.b.I0 74) (vb.C3 74) ⟨⟨[0,1,7,8],[],[]⟩,[(.exit 0,⟨[],[],[]⟩),(.ret,⟨[4],[],[]⟩)]⟩ (B9 Tryz.f74 2)
theorem G4 (v0 v1 v2 v3:V) (H:VH):z7 [v0,v1,v2,v3] H =
 (a8 (.int .i64) .lss v3 v2).bind fun x4 =>
 j9 x4 (
 (E1 3 (strip v0) v3).bind fun x10 =>
 (G7 C4 false true 3 x10 H).bind fun r12 =>
 (aee v1).bind fun p14 =>
 (qc p14.1 ((([r12.1]:List V)++p14.2).map (j8 r12.2))).bind fun x13 =>
 j9 x13 (
 some (some 1,[(strip v3)],r12.2)) (
 (a8 (.int .i64) .add (strip v3) (.int .i64 1)).bind fun x17 =>
 some (none,[v0,(strip v1),v2,x17],r12.2))) (
 some (some 0,[],H)):=by kernel_rfl
theorem S8 (a0 a1:V) (H:VH):cv C6 [a0,a1] H =
 (D2 (strip a0)).bind fun x2 =>
 (o6 z7 [a0,a1,x2,(.int .i64 0)] H).bind fun r19 =>
 A2 r19.1 [
 l4 0 r19.2.1 fun v20 =>
 some ((.int .i64 (-1)),r19.2.2),
 l4 1 r19.2.1 fun v22 =>
 some ((v22 0),r19.2.2)]:=(j7 vb _ _ _ rfl).trans (by kernel_rfl)
theorem ago (a0:V) (H:VH):cv E6 [a0] H =
 (F8 3 a0).bind fun c1 =>
 (qc M4 [(j8 H (.agg [(strip (c1.getD 0 .b7)),(strip (c1.getD 1 .b7)),(strip (c1.getD 2 .b7))]))]).bind fun x4 =>
 (G9 .not x4).bind fun x5 =>
 some (x5,H):=(j7 vb _ _ _ rfl).trans (by kernel_rfl)
theorem agB (a0:V) (H:VH):cv M4 [a0] H =
 (F8 3 a0).bind fun c1 =>
 (qc I8 [(j8 H (strip (c1.getD 0 .b7)))]).bind fun x5 =>
 l7 x5 (
 (p8 (strip (c1.getD 0 .b7))).bind fun x9 =>
 (a8 (.int .i64) .leq x9 (.int .i64 40)).bind fun x10 =>
 l7 x10 (
 (qc acm [(j8 H (strip (c1.getD 1 .b7)))]).bind fun x15 =>
 l7 x15 (
 (qc abQ [(j8 H (strip (c1.getD 2 .b7)))]).bind fun x20 =>
 some (x20,H)) (
 some ((.bool false),H))) (
 some ((.bool false),H))) (
 some ((.bool false),H)):=(j7 vb _ _ _ rfl).trans (by kernel_rfl)
noncomputable def X3:List V->VH->Option (Option Nat × List V × VH):=C0 (vb.ctx cv o6) (vb.b.I0 41) (vb.C3 41) ⟨⟨[0,5,6],[],[]⟩,[(.exit 0,⟨[0],[],[]⟩),(.ret,⟨[2],[],[]⟩)]⟩ (B9 Tryz.f41 2)
theorem ab8 (v0 v1 v2:V) (H:VH):X3 [v0,v1,v2] H =
 (a8 (.int .i64) .lss v2 v1).bind fun x4 =>
 j9 x4 (
 (o7 v0 v2).bind fun x9 =>
 (a8 (.int .u8) .lss x9 (.int .u8 32)).bind fun x10 =>
 l7 x10 (
 some (some 1,[(.bool false)],H)) (
 (o7 (strip v0) (strip v2)).bind fun x16 =>
 (a8 (.int .u8) .gtr x16 (.int .u8 126)).bind fun x17 =>
 j9 x17 (
 some (some 1,[(.bool false)],H)) (
 (a8 (.int .i64) .add (strip v2) (.int .i64 1)).bind fun x20 =>
 some (none,[(strip (strip v0)),v1,x20],H)))) (
 some (some 0,[v0],H)):=by kernel_rfl
theorem ai1 (a0:V) (H:VH):cv I8 [a0] H =
 (p8 a0).bind fun x2 =>
 (o6 X3 [(strip a0),x2,(.int .i64 0)] H).bind fun r22 =>
 A2 r22.1 [
 l4 1 r22.2.1 fun v23 =>
 (p8 (v23 0)).bind fun x25 =>
 (a8 (.int .i64) .leq x25 (.int .i64 200)).bind fun x26 =>
 some (x26,r22.2.2),
 l4 1 r22.2.1 fun v28 =>
 some ((v28 0),r22.2.2)]:=(j7 vb _ _ _ rfl).trans (by kernel_rfl)
theorem alF (a0:V) (H:VH):cv acm [a0] H =
 (p8 a0).bind fun x2 =>
 (a8 (.int .i64) .leq x2 (.int .i64 30)).bind fun x3 =>
 l7 x3 (
 (pc O5 [(j8 H (strip a0)),(j8 H (.str [46]))]).bind fun x6 =>
 (qc C5 [(j8 H x6),(j8 H (.fn W6 []))]).bind fun x7 =>
 (G9 .not x7).bind fun x8 =>
 some (x8,H)) (
 some ((.bool false),H)):=(j7 vb _ _ _ rfl).trans (by kernel_rfl)
theorem akc (a0 a1:V) (H:VH):cv O5 [a0,a1] H =
 (pcg T9 H [a0,a1,(.int .i64 0),(.int .i64 (-1))]).bind fun r4 =>
 some (r4.1,r4.2):=(j7 vb _ _ _ rfl).trans (by kernel_rfl)
noncomputable def R9:List V->VH->Option (Option Nat × List V × VH):=C0 (vb.ctx cv o6) (vb.b.I0 64) (vb.C3 64) ⟨⟨[0,1,2,3,9,10],[],[]⟩,[(.exit 0,⟨[0,9,10],[],[]⟩)]⟩ (B9 Tryz.f64 11)
theorem abh (v0 v1 v2 v3 v4 v5:V) (H:VH):R9 [v0,v1,v2,v3,v4,v5] H =
 (a8 (.int .i64) .lss v5 v3).bind fun x34 =>
 j9 x34 (
 (qc abN [(j8 H v0),(j8 H v1)]).bind fun x37 =>
 (a8 (.int .i64) .lss x37 (.int .i64 0)).bind fun x40 =>
 j9 x40 (
 some (some 0,[(strip v0),v4,(strip v5)],H)) (
 (a8 (.int .i64) .add (strip x37) v2).bind fun x46 =>
 (y7 (strip v0) none (some x46)).bind fun x47 =>
 (E1 1 (strip v4) (strip v5)).bind fun x48 =>
 (B4 x47).bind fun y50 =>
 (stO x48 [y50] H).bind fun H51 =>
 (p8 (strip v1)).bind fun x55 =>
 (a8 (.int .i64) .add (strip (strip x37)) x55).bind fun x56 =>
 (y7 (strip (strip v0)) (some x56) none).bind fun x57 =>
 (a8 (.int .i64) .add (strip (strip v5)) (.int .i64 1)).bind fun x60 =>
 some (none,[x57,(strip (strip v1)),(strip v2),(strip v3),v4,x60],H51))) (
 some (some 0,[v0,v4,(strip v5)],H)):=by kernel_rfl
theorem ahj (a0 a1 a2 a3:V) (H:VH):cv T9 [a0,a1,a2,a3] H =
 (a8 (.int .i64) .eql a3 (.int .i64 0)).bind fun x2 =>
 j9 x2 (
 some ((.sl true []),H)) (
 (a8 .str .eql a1 (.str [])).bind fun x5 =>
 j9 x5 (
 (pc aif [(j8 H a0),(j8 H (strip a3))]).bind fun x8 =>
 some (x8,H)) (
 (id (
 (a8 (.int .i64) .lss (strip a3) (.int .i64 0)).bind fun x11 =>
 j9 x11 (
 (qc abR [(j8 H a0),(j8 H (strip a1))]).bind fun x14 =>
 (a8 (.int .i64) .add x14 (.int .i64 1)).bind fun x15 =>
 some (0,[(strip a0),(strip (strip a1)),a2,x15],H)) (
 some (0,[a0,(strip a1),a2,(strip (strip a3))],H)):Option (Nat × List V × VH))).bind fun r17 =>
 A2 r17.1 [
 l4 4 r17.2.1 fun v18 =>
 (p8 (v18 0)).bind fun x21 =>
 (a8 (.int .i64) .add x21 (.int .i64 1)).bind fun x22 =>
 (aiL (v18 3) x22).bind fun x23 =>
 (ahp 16 x23 x23).bind fun x26 =>
 (a8 (.int .i64) .sub (strip x23) (.int .i64 1)).bind fun x29 =>
 (o6 R9 [(strip (v18 0)),(v18 1),(v18 2),x29,(.A0 r17.2.2.length 0 x26.1 1),(.int .i64 0)] (r17.2.2++[aaQ x26.2 [(.str [])]])).bind fun r62 =>
 A2 r62.1 [
 l4 3 r62.2.1 fun v63 =>
 (E1 1 (strip (v63 1)) (v63 2)).bind fun x67 =>
 (B4 (v63 0)).bind fun y69 =>
 (stO x67 [y69] r62.2.2).bind fun H70 =>
 (a8 (.int .i64) .add (strip (v63 2)) (.int .i64 1)).bind fun x73 =>
 (V6 1 (strip (v63 1)) none (some x73)).bind fun x74 =>
 some (x74,H70)]])):=(j7 vb _ _ _ rfl).trans (by kernel_rfl)
noncomputable def ajG:List V->VH->Option (Option Nat × List V × VH):=C0 (vb.ctx cv o6) (vb.b.I0 112) (vb.C3 112) ⟨⟨[0,1,5],[],[]⟩,[(.ret,⟨[4],[],[]⟩)]⟩ (B9 Tryz.f112 6)
theorem aka (a0 a1:V) (H:VH):cv abR [a0,a1] H =
 (p8 a1).bind fun x2 =>
 (a8 (.int .i64) .eql x2 (.int .i64 0)).bind fun x3 =>
 j9 x3 (
 (qc abD [(j8 H a0)]).bind fun x5 =>
 (a8 (.int .i64) .add x5 (.int .i64 1)).bind fun x6 =>
 some (x6,H)) (
 (p8 (strip a1)).bind fun x9 =>
 (a8 (.int .i64) .eql x9 (.int .i64 1)).bind fun x10 =>
 j9 x10 (
 (o7 (strip (strip a1)) (.int .i64 0)).bind fun x13 =>
 (akh 1 [a0,x13] fun x14 =>
  some (x14,H))) (
 (o6 ajG [a0,(strip (strip a1)),(.int .i64 0)] H).bind fun r35 =>
 A2 r35.1 [
 l4 1 r35.2.1 fun v36 =>
 some ((v36 0),r35.2.2)])):=(j7 vb _ _ _ rfl).trans (by kernel_rfl)
theorem aj1 (a0 a1:V) (H:VH):cv abN [a0,a1] H =
 (qc H7 [(j8 H a0),(j8 H a1)]).bind fun x3 =>
 some (x3,H):=(j7 vb _ _ _ rfl).trans (by kernel_rfl)
noncomputable def ab2:List V->VH->Option (Option Nat × List V × VH):=C0 (vb.ctx cv o6) (vb.b.I0 146) (vb.C3 146) ⟨⟨[0,1,5,6,7,8,9,10],[],[]⟩,[(.exit 1,⟨[],[],[]⟩),(.ret,⟨[4],[],[]⟩)]⟩ (B9 Tryz.f146 15)
theorem acy (a0 a1:V) (H:VH):cv H7 [a0,a1] H =
 (p8 a1).bind fun x2 =>
 (id (
 (a8 (.int .i64) .eql x2 (.int .i64 0)).bind fun x5 =>
 l7 x5 (
 some (0,[(.int .i64 0)],H)) (
 (a8 .str .eql (strip a1) a0).bind fun x12 =>
 j9 x12 (
 some (0,[(.int .i64 0)],H)) (
 (a8 (.int .i64) .eql (strip x2) (.int .i64 1)).bind fun x17 =>
 j9 x17 (
 (o7 (strip (strip a1)) (.int .i64 0)).bind fun x21 =>
 (qc J8 [(j8 H (strip a0)),(j8 H x21)]).bind fun x22 =>
 some (0,[x22],H)) (
 (p8 (strip a0)).bind fun x26 =>
 (a8 (.int .i64) .geq (strip (strip x2)) x26).bind fun x27 =>
 j9 x27 (
 some (0,[(.int .i64 (-1))],H)) (
 (G7 C4 false false 1 (.gp 1 0) H).bind fun r32 =>
 (a8 (.int .i64) .leq (strip (strip (strip x2))) r32.1).bind fun x33 =>
 l7 x33 (
 (p8 (strip (strip a0))).bind fun x36 =>
 (a8 (.int .i64) .leq x36 (.int .i64 64)).bind fun x37 =>
 j9 x37 (
 (akh 2 [(strip (strip (strip a0))),(strip (strip a1))] fun x42 =>
  some (0,[x42],r32.2))) (
 some (1,[(strip (strip (strip a0))),(strip (strip a1)),(strip (strip (strip (strip x2))))],r32.2))) (
 some (1,[(strip (strip a0)),(strip (strip a1)),(strip (strip (strip (strip x2))))],r32.2)))))):Option (Nat × List V × VH))).bind fun r46 =>
 A2 r46.1 [
 l4 1 r46.2.1 fun v47 =>
 some ((v47 0),r46.2.2),
 l4 3 r46.2.1 fun v48 =>
 (o7 (v48 1) (.int .i64 0)).bind fun x50 =>
 (o7 (strip (v48 1)) (.int .i64 1)).bind fun x53 =>
 (p8 (v48 0)).bind fun x57 =>
 (a8 (.int .i64) .sub x57 (v48 2)).bind fun x59 =>
 (a8 (.int .i64) .add x59 (.int .i64 1)).bind fun x60 =>
 (o6 ab2 [(strip (v48 0)),(strip (strip (v48 1))),(strip (v48 2)),x50,x53,(.int .i64 0),x60,(.int .i64 0)] r46.2.2).bind fun r208 =>
 A2 r208.1 [
 l4 0 r208.2.1 fun v209 =>
 some ((.int .i64 (-1)),r208.2.2),
 l4 1 r208.2.1 fun v211 =>
 some ((v211 0),r208.2.2)]]:=(j7 vb _ _ _ rfl).trans (by kernel_rfl)
theorem abv (a0 a1:V) (H:VH):cv J8 [a0,a1] H =
 (akh 0 [a0,a1] fun x3 =>
  some (x3,H)):=(j7 vb _ _ _ rfl).trans (by kernel_rfl)
theorem aak (a0 a1:V) (H:VH):cv C5 [a0,a1] H =
 (qc I4 [(j8 H (strip a0)),(j8 H a1)]).bind fun x3 =>
 (a8 (.int .i64) .geq x3 (.int .i64 0)).bind fun x4 =>
 some (x4,H):=(j7 vb _ _ _ rfl).trans (by kernel_rfl)
noncomputable def D6:List V->VH->Option (Option Nat × List V × VH):=C0 (vb.ctx cv o6) (vb.b.I0 127) (vb.C3 127) ⟨⟨[0,1,7,8],[],[]⟩,[(.exit 0,⟨[],[],[]⟩),(.ret,⟨[4],[],[]⟩)]⟩ (B9 Tryz.f127 2)
theorem N4 (v0 v1 v2 v3:V) (H:VH):D6 [v0,v1,v2,v3] H =
 (a8 (.int .i64) .lss v3 v2).bind fun x4 =>
 j9 x4 (
 (E1 1 (strip v0) v3).bind fun x10 =>
 (G7 C4 false false 1 x10 H).bind fun r12 =>
 (aee v1).bind fun p14 =>
 (qc p14.1 ((([r12.1]:List V)++p14.2).map (j8 r12.2))).bind fun x13 =>
 j9 x13 (
 some (some 1,[(strip v3)],r12.2)) (
 (a8 (.int .i64) .add (strip v3) (.int .i64 1)).bind fun x17 =>
 some (none,[v0,(strip v1),v2,x17],r12.2))) (
 some (some 0,[],H)):=by kernel_rfl
theorem aaK (a0 a1:V) (H:VH):cv I4 [a0,a1] H =
 (D2 (strip a0)).bind fun x2 =>
 (o6 D6 [a0,a1,x2,(.int .i64 0)] H).bind fun r19 =>
 A2 r19.1 [
 l4 0 r19.2.1 fun v20 =>
 some ((.int .i64 (-1)),r19.2.2),
 l4 1 r19.2.1 fun v22 =>
 some ((v22 0),r19.2.2)]:=(j7 vb _ _ _ rfl).trans (by kernel_rfl)
theorem ai4 (a0:V) (H:VH):cv W6 [a0] H =
 (qc W3 [(j8 H a0)]).bind fun x2 =>
 (G9 .not x2).bind fun x3 =>
 some (x3,H):=(j7 vb _ _ _ rfl).trans (by kernel_rfl)
theorem aje (a0:V) (H:VH):cv W3 [a0] H =
 (p8 a0).bind fun x2 =>
 (a8 (.int .i64) .geq x2 (.int .i64 1)).bind fun x3 =>
 l7 x3 (
 (p8 (strip a0)).bind fun x6 =>
 (a8 (.int .i64) .leq x6 (.int .i64 40)).bind fun x7 =>
 l7 x7 (
 (qc Z5 [(j8 H (strip (strip a0))),(j8 H (.fn P4 []))]).bind fun x11 =>
 some (x11,H)) (
 some ((.bool false),H))) (
 some ((.bool false),H)):=(j7 vb _ _ _ rfl).trans (by kernel_rfl)
noncomputable def Z3:List V->VH->Option (Option Nat × List V × VH):=C0 (vb.ctx cv o6) (vb.b.I0 174) (vb.C3 174) ⟨⟨[0,1,7,8],[],[]⟩,[(.exit 0,⟨[],[],[]⟩),(.ret,⟨[4],[],[]⟩)]⟩ (B9 Tryz.f174 2)
theorem acA (v0 v1 v2 v3:V) (H:VH):Z3 [v0,v1,v2,v3] H =
 (a8 (.int .i64) .lss v3 v2).bind fun x4 =>
 j9 x4 (
 (o7 v0 v3).bind fun x10 =>
 (aee v1).bind fun p12 =>
 (qc p12.1 ((([x10]:List V)++p12.2).map (j8 H))).bind fun x11 =>
 (G9 .not x11).bind fun x13 =>
 j9 x13 (
 some (some 1,[(.bool false)],H)) (
 (a8 (.int .i64) .add (strip v3) (.int .i64 1)).bind fun x15 =>
 some (none,[(strip v0),(strip v1),v2,x15],H))) (
 some (some 0,[],H)):=by kernel_rfl
theorem akm (a0 a1:V) (H:VH):cv Z5 [a0,a1] H =
 (p8 a0).bind fun x2 =>
 (o6 Z3 [(strip a0),a1,x2,(.int .i64 0)] H).bind fun r17 =>
 A2 r17.1 [
 l4 0 r17.2.1 fun v18 =>
 some ((.bool true),r17.2.2),
 l4 1 r17.2.1 fun v20 =>
 some ((v20 0),r17.2.2)]:=(j7 vb _ _ _ rfl).trans (by kernel_rfl)
theorem aib (a0:V) (H:VH):cv P4 [a0] H =
 (qc abP [(j8 H a0)]).bind fun x2 =>
 l7 x2 (
 some ((.bool true),H)) (
 (qc U8 [(j8 H (strip a0))]).bind fun x27 =>
 l7 x27 (
 some ((.bool true),H)) (
 (a8 (.int .u8) .eql (strip (strip a0)) (.int .u8 33)).bind fun x51 =>
 l7 x51 (
 some ((.bool true),H)) (
 (a8 (.int .u8) .geq (strip (strip (strip a0))) (.int .u8 35)).bind fun x73 =>
 l7 x73 (
 (a8 (.int .u8) .leq (strip (strip (strip (strip a0)))) (.int .u8 39)).bind fun x76 =>
 l7 x76 (
 some ((.bool true),H)) (
 (a8 (.int .u8) .eql (strip (strip (strip (strip (strip a0))))) (.int .u8 42)).bind fun x97 =>
 l7 x97 (
 some ((.bool true),H)) (
 (a8 (.int .u8) .eql (strip (strip (strip (strip (strip (strip a0)))))) (.int .u8 43)).bind fun x115 =>
 l7 x115 (
 some ((.bool true),H)) (
 (a8 (.int .u8) .eql (strip (strip (strip (strip (strip (strip (strip a0))))))) (.int .u8 45)).bind fun x131 =>
 l7 x131 (
 some ((.bool true),H)) (
 (a8 (.int .u8) .eql (strip (strip (strip (strip (strip (strip (strip (strip a0)))))))) (.int .u8 47)).bind fun x145 =>
 l7 x145 (
 some ((.bool true),H)) (
 (a8 (.int .u8) .eql (strip (strip (strip (strip (strip (strip (strip (strip (strip a0))))))))) (.int .u8 61)).bind fun x157 =>
 l7 x157 (
 some ((.bool true),H)) (
 (a8 (.int .u8) .eql (strip (strip (strip (strip (strip (strip (strip (strip (strip (strip a0)))))))))) (.int .u8 63)).bind fun x167 =>
 l7 x167 (
 some ((.bool true),H)) (
 (a8 (.int .u8) .geq (strip (strip (strip (strip (strip (strip (strip (strip (strip (strip (strip a0))))))))))) (.int .u8 94)).bind fun x175 =>
 l7 x175 (
 (a8 (.int .u8) .leq (strip (strip (strip (strip (strip (strip (strip (strip (strip (strip (strip (strip a0)))))))))))) (.int .u8 96)).bind fun x178 =>
 l7 x178 (
 some ((.bool true),H)) (
 (a8 (.int .u8) .geq (strip (strip (strip (strip (strip (strip (strip (strip (strip (strip (strip (strip (strip a0))))))))))))) (.int .u8 123)).bind fun x185 =>
 l7 x185 (
 (a8 (.int .u8) .leq (strip (strip (strip (strip (strip (strip (strip (strip (strip (strip (strip (strip (strip (strip a0)))))))))))))) (.int .u8 126)).bind fun x188 =>
 some (x188,H)) (
 some ((.bool false),H)))) (
 (a8 (.int .u8) .geq (strip (strip (strip (strip (strip (strip (strip (strip (strip (strip (strip (strip a0)))))))))))) (.int .u8 123)).bind fun x199 =>
 l7 x199 (
 (a8 (.int .u8) .leq (strip (strip (strip (strip (strip (strip (strip (strip (strip (strip (strip (strip (strip a0))))))))))))) (.int .u8 126)).bind fun x202 =>
 some (x202,H)) (
 some ((.bool false),H))))))))))) (
 (a8 (.int .u8) .eql (strip (strip (strip (strip a0)))) (.int .u8 42)).bind fun x213 =>
 l7 x213 (
 some ((.bool true),H)) (
 (a8 (.int .u8) .eql (strip (strip (strip (strip (strip a0))))) (.int .u8 43)).bind fun x231 =>
 l7 x231 (
 some ((.bool true),H)) (
 (a8 (.int .u8) .eql (strip (strip (strip (strip (strip (strip a0)))))) (.int .u8 45)).bind fun x247 =>
 l7 x247 (
 some ((.bool true),H)) (
 (a8 (.int .u8) .eql (strip (strip (strip (strip (strip (strip (strip a0))))))) (.int .u8 47)).bind fun x261 =>
 l7 x261 (
 some ((.bool true),H)) (
 (a8 (.int .u8) .eql (strip (strip (strip (strip (strip (strip (strip (strip a0)))))))) (.int .u8 61)).bind fun x273 =>
 l7 x273 (
 some ((.bool true),H)) (
 (a8 (.int .u8) .eql (strip (strip (strip (strip (strip (strip (strip (strip (strip a0))))))))) (.int .u8 63)).bind fun x283 =>
 l7 x283 (
 some ((.bool true),H)) (
 (a8 (.int .u8) .geq (strip (strip (strip (strip (strip (strip (strip (strip (strip (strip a0)))))))))) (.int .u8 94)).bind fun x291 =>
 l7 x291 (
 (a8 (.int .u8) .leq (strip (strip (strip (strip (strip (strip (strip (strip (strip (strip (strip a0))))))))))) (.int .u8 96)).bind fun x294 =>
 l7 x294 (
 some ((.bool true),H)) (
 (a8 (.int .u8) .geq (strip (strip (strip (strip (strip (strip (strip (strip (strip (strip (strip (strip a0)))))))))))) (.int .u8 123)).bind fun x301 =>
 l7 x301 (
 (a8 (.int .u8) .leq (strip (strip (strip (strip (strip (strip (strip (strip (strip (strip (strip (strip (strip a0))))))))))))) (.int .u8 126)).bind fun x304 =>
 some (x304,H)) (
 some ((.bool false),H)))) (
 (a8 (.int .u8) .geq (strip (strip (strip (strip (strip (strip (strip (strip (strip (strip (strip a0))))))))))) (.int .u8 123)).bind fun x315 =>
 l7 x315 (
 (a8 (.int .u8) .leq (strip (strip (strip (strip (strip (strip (strip (strip (strip (strip (strip (strip a0)))))))))))) (.int .u8 126)).bind fun x318 =>
 some (x318,H)) (
 some ((.bool false),H))))))))))))):=(j7 vb _ _ _ rfl).trans (by kernel_rfl)
theorem ajA (a0:V) (H:VH):cv abP [a0] H =
 (a8 (.int .u8) .geq a0 (.int .u8 97)).bind fun x2 =>
 l7 x2 (
 (a8 (.int .u8) .leq (strip a0) (.int .u8 122)).bind fun x5 =>
 l7 x5 (
 some ((.bool true),H)) (
 (a8 (.int .u8) .geq (strip (strip a0)) (.int .u8 65)).bind fun x11 =>
 l7 x11 (
 (a8 (.int .u8) .leq (strip (strip (strip a0))) (.int .u8 90)).bind fun x14 =>
 some (x14,H)) (
 some ((.bool false),H)))) (
 (a8 (.int .u8) .geq (strip a0) (.int .u8 65)).bind fun x24 =>
 l7 x24 (
 (a8 (.int .u8) .leq (strip (strip a0)) (.int .u8 90)).bind fun x27 =>
 some (x27,H)) (
 some ((.bool false),H))):=(j7 vb _ _ _ rfl).trans (by kernel_rfl)
theorem alc (a0:V) (H:VH):cv U8 [a0] H =
 (a8 (.int .u8) .geq a0 (.int .u8 48)).bind fun x2 =>
 l7 x2 (
 (a8 (.int .u8) .leq (strip a0) (.int .u8 57)).bind fun x5 =>
 some (x5,H)) (
 some ((.bool false),H)):=(j7 vb _ _ _ rfl).trans (by kernel_rfl)
theorem aku (a0:V) (H:VH):cv abQ [a0] H =
 (p8 a0).bind fun x2 =>
 (a8 (.int .i64) .leq x2 (.int .i64 40)).bind fun x3 =>
 l7 x3 (
 (pc O5 [(j8 H (strip a0)),(j8 H (.str [46]))]).bind fun x6 =>
 (qc C5 [(j8 H x6),(j8 H (.fn V2 []))]).bind fun x7 =>
 (G9 .not x7).bind fun x8 =>
 some (x8,H)) (
 some ((.bool false),H)):=(j7 vb _ _ _ rfl).trans (by kernel_rfl)
theorem ah7 (a0:V) (H:VH):cv V2 [a0] H =
 (qc ab3 [(j8 H a0)]).bind fun x2 =>
 (G9 .not x2).bind fun x3 =>
 some (x3,H):=(j7 vb _ _ _ rfl).trans (by kernel_rfl)
theorem alH (a0:V) (H:VH):cv ab3 [a0] H =
 (a8 .str .neq a0 (.str [])).bind fun x2 =>
 l7 x2 (
 (o7 (strip a0) (.int .i64 0)).bind fun x5 =>
 (a8 (.int .u8) .neq x5 (.int .u8 45)).bind fun x6 =>
 l7 x6 (
 (p8 (strip (strip (strip a0)))).bind fun x11 =>
 (a8 (.int .i64) .sub x11 (.int .i64 1)).bind fun x12 =>
 (o7 (strip (strip a0)) x12).bind fun x13 =>
 (a8 (.int .u8) .neq x13 (.int .u8 45)).bind fun x14 =>
 l7 x14 (
 (qc Z5 [(j8 H (strip (strip (strip (strip a0))))),(j8 H (.fn W2 []))]).bind fun x18 =>
 some (x18,H)) (
 some ((.bool false),H))) (
 some ((.bool false),H))) (
 some ((.bool false),H)):=(j7 vb _ _ _ rfl).trans (by kernel_rfl)
theorem aiZ (a0:V) (H:VH):cv W2 [a0] H =
 (a8 (.int .u8) .geq a0 (.int .u8 97)).bind fun x2 =>
 l7 x2 (
 (a8 (.int .u8) .leq (strip a0) (.int .u8 122)).bind fun x5 =>
 l7 x5 (
 some ((.bool true),H)) (
 (qc U8 [(j8 H (strip (strip a0)))]).bind fun x13 =>
 l7 x13 (
 some ((.bool true),H)) (
 (a8 (.int .u8) .eql (strip (strip (strip a0))) (.int .u8 45)).bind fun x19 =>
 some (x19,H)))) (
 (qc U8 [(j8 H (strip a0))]).bind fun x25 =>
 l7 x25 (
 some ((.bool true),H)) (
 (a8 (.int .u8) .eql (strip (strip a0)) (.int .u8 45)).bind fun x31 =>
 some (x31,H))):=(j7 vb _ _ _ rfl).trans (by kernel_rfl)
theorem afM (a0:V) (H:VH):cv Q5 [a0] H =
 (F8 3 a0).bind fun c1 =>
 (qc M4 [(j8 H (.agg [(strip (c1.getD 0 .b7)),(strip (c1.getD 1 .b7)),(strip (c1.getD 2 .b7))]))]).bind fun x4 =>
 (G9 .not x4).bind fun x5 =>
 j9 x5 (
 some ((.str []),H)) (
 (a8 .str .eql (strip (c1.getD 0 .b7)) (.str [])).bind fun x10 =>
 j9 x10 (
 (a8 .str .add (strip (c1.getD 1 .b7)) (.str [64])).bind fun x14 =>
 (a8 .str .add x14 (strip (c1.getD 2 .b7))).bind fun x17 =>
 some (x17,H)) (
 (qc W5 [(j8 H (strip (c1.getD 0 .b7)))]).bind fun x21 =>
 (a8 .str .add x21 (.str [32,60])).bind fun x22 =>
 (a8 .str .add x22 (strip (c1.getD 1 .b7))).bind fun x25 =>
 (a8 .str .add x25 (.str [64])).bind fun x26 =>
 (a8 .str .add x26 (strip (c1.getD 2 .b7))).bind fun x29 =>
 (a8 .str .add x29 (.str [62])).bind fun x30 =>
 some (x30,H))):=(j7 vb _ _ _ rfl).trans (by kernel_rfl)
noncomputable def adP:List V->VH->Option (Option Nat × List V × VH):=C0 (vb.ctx cv o6) (vb.b.I0 77) (vb.C3 77) ⟨⟨[0,3,15,16],[],[]⟩,[(.exit 1,⟨[3],[],[]⟩)]⟩ (B9 Tryz.f77 7)
theorem agQ (v0 v1 v2 v3:V) (H:VH):adP [v0,v1,v2,v3] H =
 (a8 (.int .i64) .lss v3 v2).bind fun x16 =>
 j9 x16 (
 (id (
 (o7 v0 v3).bind fun x21 =>
 (a8 (.int .u8) .eql x21 (.int .u8 34)).bind fun x22 =>
 l7 x22 (
 (Z9 v1).bind fun s28 =>
 (I6 false 1 1 s28 (.sl true [[(.int .u8 92)]])).bind fun x27 =>
 some (0,[(strip v0),x27,(strip v3),v2,(strip v3)],H)) (
 (o7 (strip v0) (strip v3)).bind fun x32 =>
 (a8 (.int .u8) .eql x32 (.int .u8 92)).bind fun x33 =>
 j9 x33 (
 (Z9 v1).bind fun s38 =>
 (I6 false 1 1 s38 (.sl true [[(.int .u8 92)]])).bind fun x37 =>
 some (0,[(strip (strip v0)),x37,(strip (strip v3)),v2,(strip v3)],H)) (
 some (0,[(strip (strip v0)),v1,(strip (strip v3)),v2,(strip v3)],H))):Option (Nat × List V × VH))).bind fun r40 =>
 A2 r40.1 [
 l4 5 r40.2.1 fun v41 =>
 (o7 (v41 0) (v41 2)).bind fun x45 =>
 (B4 x45).bind fun y47 =>
 (Z9 (v41 1)).bind fun s49 =>
 (I6 false 1 1 s49 (.sl true [[y47]])).bind fun x48 =>
 (a8 (.int .i64) .add (v41 4) (.int .i64 1)).bind fun x51 =>
 some (none,[(strip (v41 0)),x48,(v41 3),x51],r40.2.2)]) (
 some (some 0,[v1],H)):=by kernel_rfl
theorem ai6 (a0:V) (H:VH):cv W5 [a0] H =
 (qc I8 [(j8 H a0)]).bind fun x2 =>
 (G9 .not x2).bind fun x3 =>
 j9 x3 (
 some ((.str []),H)) (
 (qc W3 [(j8 H (strip a0))]).bind fun x7 =>
 j9 x7 (
 some ((strip (strip a0)),H)) (
 (p8 (strip (strip a0))).bind fun x14 =>
 (o6 adP [(strip (strip (strip a0))),(.sl true [[(.int .u8 34)]]),x14,(.int .i64 0)] H).bind fun r53 =>
 A2 r53.1 [
 l4 1 r53.2.1 fun v54 =>
 (Z9 (v54 0)).bind fun s58 =>
 (I6 false 1 1 s58 (.sl true [[(.int .u8 34)]])).bind fun x57 =>
 (abm x57 r53.2.2).bind fun x59 =>
 some (x59,r53.2.2)])):=(j7 vb _ _ _ rfl).trans (by kernel_rfl)
noncomputable def adp:List V->VH->Option (Option Nat × List V × VH):=C0 (vb.ctx cv o6) (vb.b.I0 12) (vb.C3 12) ⟨⟨[0,3,4],[],[]⟩,[(.exit 0,⟨[3],[],[]⟩),(.ret,⟨[2],[],[]⟩)]⟩ (B9 Tryz.f12 3)
theorem agd (v0 v1 v2:V) (H:VH):adp [v0,v1,v2] H =
 (id (
 (D2 (strip v0)).bind fun x5 =>
 (a8 (.int .i64) .lss v2 x5).bind fun x6 =>
 l7 x6 (
 (D2 (strip v0)).bind fun x9 =>
 (a8 (.int .i64) .leq x9 (.int .i64 10)).bind fun x10 =>
 j9 x10 (
 some (0,[v0,v1,(strip v2)],H)) (
 some (1,[v1],H))) (
 some (1,[v1],H)):Option (Nat × List V × VH))).bind fun r13 =>
 A2 r13.1 [
 l4 3 r13.2.1 fun v14 =>
 (id (
 (E1 3 (strip (v14 0)) (v14 2)).bind fun x17 =>
 (G7 C4 false true 3 x17 r13.2.2).bind fun r19 =>
 (qc S0 [(j8 r19.2 r19.1)]).bind fun x20 =>
 (G9 .not x20).bind fun x21 =>
 j9 x21 (
 some (0,[(.str [])],r19.2)) (
 (id (
 (a8 (.int .i64) .gtr (strip (v14 2)) (.int .i64 0)).bind fun x24 =>
 j9 x24 (
 (a8 .str .add (v14 1) (.str [44,32])).bind fun x26 =>
 some (0,[(v14 0),x26,(strip (strip (v14 2)))],r19.2)) (
 some (0,[(v14 0),(v14 1),(strip (strip (v14 2)))],r19.2)):Option (Nat × List V × VH))).bind fun r28 =>
 A2 r28.1 [
 l4 3 r28.2.1 fun v29 =>
 (E1 3 (strip (v29 0)) (v29 2)).bind fun x33 =>
 (G7 C4 false true 3 x33 r28.2.2).bind fun r35 =>
 (qc Y2 [(j8 r35.2 r35.1)]).bind fun x36 =>
 (a8 .str .add (v29 1) x36).bind fun x37 =>
 some (1,[(v29 0),x37,(strip (v29 2))],r35.2)]):Option (Nat × List V × VH))).bind fun r39 =>
 A2 r39.1 [
 l4 1 r39.2.1 fun v40 =>
 some (some 1,[(v40 0)],r39.2.2),
 l4 3 r39.2.1 fun v41 =>
 (a8 (.int .i64) .add (v41 2) (.int .i64 1)).bind fun x43 =>
 some (none,[(v41 0),(v41 1),x43],r39.2.2)],
 l4 1 r13.2.1 fun v45 =>
 some (some 0,[(v45 0)],r13.2.2)]:=by kernel_rfl
theorem ahL (a0:V) (H:VH):cv K9 [a0] H =
 (o6 adp [a0,(.str []),(.int .i64 0)] H).bind fun r46 =>
 A2 r46.1 [
 l4 1 r46.2.1 fun v47 =>
 (p8 (v47 0)).bind fun x49 =>
 (a8 (.int .i64) .gtr x49 (.int .i64 200)).bind fun x50 =>
 j9 x50 (
 some ((.str []),r46.2.2)) (
 some ((strip (v47 0)),r46.2.2)),
 l4 1 r46.2.1 fun v54 =>
 some ((v54 0),r46.2.2)]:=(j7 vb _ _ _ rfl).trans (by kernel_rfl)
theorem ags (a0:V) (H:VH):cv S0 [a0] H =
 (F8 3 a0).bind fun c1 =>
 (qc acY [(j8 H (strip (c1.getD 0 .b7)))]).bind fun x5 =>
 l7 x5 (
 (p8 (strip (c1.getD 1 .b7))).bind fun x9 =>
 (a8 (.int .i64) .leq x9 (.int .i64 30)).bind fun x10 =>
 l7 x10 (
 (qc ab6 [(j8 H (strip (c1.getD 1 .b7)))]).bind fun x15 =>
 l7 x15 (
 (p8 (strip (c1.getD 2 .b7))).bind fun x20 =>
 (a8 (.int .i64) .leq x20 (.int .i64 40)).bind fun x21 =>
 l7 x21 (
 (qc abT [(j8 H (strip (c1.getD 2 .b7)))]).bind fun x26 =>
 some (x26,H)) (
 some ((.bool false),H))) (
 some ((.bool false),H))) (
 some ((.bool false),H))) (
 some ((.bool false),H)):=(j7 vb _ _ _ rfl).trans (by kernel_rfl)
theorem al8 (a0:V) (H:VH):cv acY [a0] H =
 (qc X1 [(j8 H a0)]).bind fun x2 =>
 l7 x2 (
 (p8 (strip a0)).bind fun x5 =>
 (a8 (.int .i64) .leq x5 (.int .i64 40)).bind fun x6 =>
 some (x6,H)) (
 some ((.bool false),H)):=(j7 vb _ _ _ rfl).trans (by kernel_rfl)
noncomputable def W8:List V->VH->Option (Option Nat × List V × VH):=C0 (vb.ctx cv o6) (vb.b.I0 48) (vb.C3 48) ⟨⟨[0,3],[],[]⟩,[(.exit 0,⟨[0],[],[]⟩),(.ret,⟨[2],[],[]⟩)]⟩ (B9 Tryz.f48 2)
theorem aca (v0 v1:V) (H:VH):W8 [v0,v1] H =
 (id (
 (p8 v0).bind fun x4 =>
 (a8 (.int .i64) .lss v1 x4).bind fun x5 =>
 l7 x5 (
 (a8 (.int .i64) .leq (strip v1) (.int .i64 200)).bind fun x8 =>
 j9 x8 (
 some (0,[(strip v0),(strip (strip v1))],H)) (
 some (1,[(strip v0)],H))) (
 some (1,[(strip v0)],H)):Option (Nat × List V × VH))).bind fun r11 =>
 A2 r11.1 [
 l4 2 r11.2.1 fun v12 =>
 (id (
 (o7 (v12 0) (v12 1)).bind fun x15 =>
 (a8 (.int .u8) .lss x15 (.int .u8 32)).bind fun x16 =>
 l7 x16 (
 some (0,[(.bool false)],r11.2.2)) (
 (o7 (strip (v12 0)) (strip (v12 1))).bind fun x22 =>
 (a8 (.int .u8) .gtr x22 (.int .u8 126)).bind fun x23 =>
 j9 x23 (
 some (0,[(.bool false)],r11.2.2)) (
 some (1,[(strip (strip (v12 0))),(strip (strip (v12 1)))],r11.2.2))):Option (Nat × List V × VH))).bind fun r26 =>
 A2 r26.1 [
 l4 1 r26.2.1 fun v27 =>
 some (some 1,[(v27 0)],r26.2.2),
 l4 2 r26.2.1 fun v28 =>
 (a8 (.int .i64) .add (v28 1) (.int .i64 1)).bind fun x30 =>
 some (none,[(v28 0),x30],r26.2.2)],
 l4 1 r11.2.1 fun v32 =>
 some (some 0,[(v32 0)],r11.2.2)]:=by kernel_rfl
theorem aiW (a0:V) (H:VH):cv X1 [a0] H =
 (o6 W8 [a0,(.int .i64 0)] H).bind fun r33 =>
 A2 r33.1 [
 l4 1 r33.2.1 fun v34 =>
 (p8 (v34 0)).bind fun x36 =>
 (a8 (.int .i64) .leq x36 (.int .i64 200)).bind fun x37 =>
 some (x37,r33.2.2),
 l4 1 r33.2.1 fun v39 =>
 some ((v39 0),r33.2.2)]:=(j7 vb _ _ _ rfl).trans (by kernel_rfl)
noncomputable def L7:List V->VH->Option (Option Nat × List V × VH):=C0 (vb.ctx cv o6) (vb.b.I0 79) (vb.C3 79) ⟨⟨[0,3,4],[],[]⟩,[(.exit 0,⟨[0],[],[]⟩),(.ret,⟨[2],[],[]⟩)]⟩ (B9 Tryz.f79 3)
theorem adB (v0 v1 v2:V) (H:VH):L7 [v0,v1,v2] H =
 (D2 (strip v1)).bind fun x7 =>
 (a8 (.int .i64) .lss v2 x7).bind fun x8 =>
 j9 x8 (
 (E1 1 (strip v1) (strip v2)).bind fun x11 =>
 (G7 C4 false false 1 x11 H).bind fun r13 =>
 (qc W7 [(j8 r13.2 r13.1)]).bind fun x14 =>
 (G9 .not x14).bind fun x15 =>
 j9 x15 (
 some (some 1,[(.bool false)],r13.2)) (
 (a8 (.int .i64) .add (strip (strip v2)) (.int .i64 1)).bind fun x18 =>
 some (none,[v0,v1,x18],r13.2))) (
 some (some 0,[v0],H)):=by kernel_rfl
theorem akI (a0:V) (H:VH):cv ab6 [a0] H =
 (pc L9 [(j8 H a0),(j8 H (.int .u8 46))]).bind fun x2 =>
 (o6 L7 [(strip a0),(strip x2),(.int .i64 0)] H).bind fun r20 =>
 A2 r20.1 [
 l4 1 r20.2.1 fun v21 =>
 (p8 (v21 0)).bind fun x23 =>
 (a8 (.int .i64) .leq x23 (.int .i64 30)).bind fun x24 =>
 some (x24,r20.2.2),
 l4 1 r20.2.1 fun v26 =>
 some ((v26 0),r20.2.2)]:=(j7 vb _ _ _ rfl).trans (by kernel_rfl)
noncomputable def afo:List V->VH->Option (Option Nat × List V × VH):=C0 (vb.ctx cv o6) (vb.b.I0 142) (vb.C3 142) ⟨⟨[0,1,5,6,7],[],[]⟩,[(.exit 0,⟨[0,5,6],[],[]⟩)]⟩ (B9 Tryz.f142 4)
theorem ahr (v0 v1 v2 v3 v4:V) (H:VH):afo [v0,v1,v2,v3,v4] H =
 (p8 v0).bind fun x7 =>
 (a8 (.int .i64) .lss v4 x7).bind fun x8 =>
 j9 x8 (
 (id (
 (o7 (strip v0) (strip v4)).bind fun x11 =>
 (a8 (.int .u8) .eql x11 v1).bind fun x13 =>
 j9 x13 (
 (y7 (strip (strip v0)) (some v3) (some (strip (strip v4)))).bind fun x18 =>
 (B4 x18).bind fun y20 =>
 (Z9 v2).bind fun s22 =>
 (I6 false 1 16 s22 (.sl true [[y20]])).bind fun x21 =>
 (a8 (.int .i64) .add (strip (strip (strip v4))) (.int .i64 1)).bind fun x25 =>
 some (0,[(strip (strip (strip v0))),(strip v1),x21,x25,(strip (strip (strip (strip v4))))],H)) (
 some (0,[(strip (strip v0)),(strip v1),v2,v3,(strip (strip v4))],H)):Option (Nat × List V × VH))).bind fun r27 =>
 A2 r27.1 [
 l4 5 r27.2.1 fun v28 =>
 (a8 (.int .i64) .add (v28 4) (.int .i64 1)).bind fun x30 =>
 some (none,[(v28 0),(v28 1),(v28 2),(v28 3),x30],r27.2.2)]) (
 some (some 0,[(strip v0),v2,v3],H)):=by kernel_rfl
theorem alx (a0 a1:V) (H:VH):cv L9 [a0,a1] H =
 (o6 afo [a0,a1,(.sl true []),(.int .i64 0),(.int .i64 0)] H).bind fun r32 =>
 A2 r32.1 [
 l4 3 r32.2.1 fun v33 =>
 (y7 (v33 0) (some (v33 2)) none).bind fun x37 =>
 (B4 x37).bind fun y39 =>
 (Z9 (v33 1)).bind fun s41 =>
 (I6 false 1 16 s41 (.sl true [[y39]])).bind fun x40 =>
 some (x40,r32.2.2)]:=(j7 vb _ _ _ rfl).trans (by kernel_rfl)
noncomputable def W9:List V->VH->Option (Option Nat × List V × VH):=C0 (vb.ctx cv o6) (vb.b.I0 143) (vb.C3 143) ⟨⟨[0,3],[],[]⟩,[(.exit 0,⟨[0],[],[]⟩),(.ret,⟨[2],[],[]⟩)]⟩ (B9 Tryz.f143 2)
theorem aci (v0 v1:V) (H:VH):W9 [v0,v1] H =
 (id (
 (p8 v0).bind fun x4 =>
 (a8 (.int .i64) .lss v1 x4).bind fun x5 =>
 l7 x5 (
 (a8 (.int .i64) .leq (strip v1) (.int .i64 40)).bind fun x8 =>
 j9 x8 (
 some (0,[(strip v0),(strip (strip v1))],H)) (
 some (1,[(strip v0)],H))) (
 some (1,[(strip v0)],H)):Option (Nat × List V × VH))).bind fun r11 =>
 A2 r11.1 [
 l4 2 r11.2.1 fun v12 =>
 (o7 (v12 0) (v12 1)).bind fun x15 =>
 (qc acJ [(j8 r11.2.2 x15)]).bind fun x16 =>
 (G9 .not x16).bind fun x17 =>
 j9 x17 (
 some (some 1,[(.bool false)],r11.2.2)) (
 (a8 (.int .i64) .add (strip (v12 1)) (.int .i64 1)).bind fun x20 =>
 some (none,[(strip (v12 0)),x20],r11.2.2)),
 l4 1 r11.2.1 fun v22 =>
 some (some 0,[(v22 0)],r11.2.2)]:=by kernel_rfl
theorem ai3 (a0:V) (H:VH):cv W7 [a0] H =
 (o6 W9 [a0,(.int .i64 0)] H).bind fun r23 =>
 A2 r23.1 [
 l4 1 r23.2.1 fun v24 =>
 (p8 (v24 0)).bind fun x26 =>
 (a8 (.int .i64) .geq x26 (.int .i64 1)).bind fun x27 =>
 l7 x27 (
 (p8 (strip (v24 0))).bind fun x30 =>
 (a8 (.int .i64) .leq x30 (.int .i64 40)).bind fun x31 =>
 some (x31,r23.2.2)) (
 some ((.bool false),r23.2.2)),
 l4 1 r23.2.1 fun v36 =>
 some ((v36 0),r23.2.2)]:=(j7 vb _ _ _ rfl).trans (by kernel_rfl)
noncomputable def aaY:List V->VH->Option (Option Nat × List V × VH):=C0 (vb.ctx cv o6) (vb.b.I0 97) (vb.C3 97) ⟨⟨[0,3],[],[]⟩,[(.exit 0,⟨[0],[],[]⟩),(.ret,⟨[2],[],[]⟩)]⟩ (B9 Tryz.f97 2)
theorem adR (v0 v1:V) (H:VH):aaY [v0,v1] H =
 (a8 (.int .i64) .lss v1 (.int .i64 19)).bind fun x3 =>
 j9 x3 (
 (o7 (.str [33,35,36,37,38,39,42,43,45,47,61,63,94,95,96,123,124,125,126]) (strip v1)).bind fun x6 =>
 (a8 (.int .u8) .eql v0 x6).bind fun x7 =>
 j9 x7 (
 some (some 1,[(.bool true)],H)) (
 (a8 (.int .i64) .add (strip (strip v1)) (.int .i64 1)).bind fun x10 =>
 some (none,[(strip v0),x10],H))) (
 some (some 0,[v0],H)):=by kernel_rfl
theorem amo (a0:V) (H:VH):cv acJ [a0] H =
 (o6 aaY [a0,(.int .i64 0)] H).bind fun r12 =>
 A2 r12.1 [
 l4 1 r12.2.1 fun v13 =>
 (qc aac [(j8 r12.2.2 (v13 0))]).bind fun x15 =>
 some (x15,r12.2.2),
 l4 1 r12.2.1 fun v17 =>
 some ((v17 0),r12.2.2)]:=(j7 vb _ _ _ rfl).trans (by kernel_rfl)
theorem ajE (a0:V) (H:VH):cv aac [a0] H =
 (a8 (.int .u8) .geq a0 (.int .u8 97)).bind fun x2 =>
 l7 x2 (
 (a8 (.int .u8) .leq (strip a0) (.int .u8 122)).bind fun x5 =>
 l7 x5 (
 some ((.bool true),H)) (
 (a8 (.int .u8) .geq (strip (strip a0)) (.int .u8 65)).bind fun x13 =>
 l7 x13 (
 (a8 (.int .u8) .leq (strip (strip (strip a0))) (.int .u8 90)).bind fun x16 =>
 l7 x16 (
 some ((.bool true),H)) (
 (a8 (.int .u8) .geq (strip (strip (strip (strip a0)))) (.int .u8 48)).bind fun x23 =>
 l7 x23 (
 (a8 (.int .u8) .leq (strip (strip (strip (strip (strip a0))))) (.int .u8 57)).bind fun x26 =>
 some (x26,H)) (
 some ((.bool false),H)))) (
 (a8 (.int .u8) .geq (strip (strip (strip a0))) (.int .u8 48)).bind fun x37 =>
 l7 x37 (
 (a8 (.int .u8) .leq (strip (strip (strip (strip a0)))) (.int .u8 57)).bind fun x40 =>
 some (x40,H)) (
 some ((.bool false),H))))) (
 (a8 (.int .u8) .geq (strip a0) (.int .u8 65)).bind fun x50 =>
 l7 x50 (
 (a8 (.int .u8) .leq (strip (strip a0)) (.int .u8 90)).bind fun x53 =>
 l7 x53 (
 some ((.bool true),H)) (
 (a8 (.int .u8) .geq (strip (strip (strip a0))) (.int .u8 48)).bind fun x60 =>
 l7 x60 (
 (a8 (.int .u8) .leq (strip (strip (strip (strip a0)))) (.int .u8 57)).bind fun x63 =>
 some (x63,H)) (
 some ((.bool false),H)))) (
 (a8 (.int .u8) .geq (strip (strip a0)) (.int .u8 48)).bind fun x74 =>
 l7 x74 (
 (a8 (.int .u8) .leq (strip (strip (strip a0))) (.int .u8 57)).bind fun x77 =>
 some (x77,H)) (
 some ((.bool false),H)))):=(j7 vb _ _ _ rfl).trans (by kernel_rfl)
noncomputable def Z6:List V->VH->Option (Option Nat × List V × VH):=C0 (vb.ctx cv o6) (vb.b.I0 80) (vb.C3 80) ⟨⟨[0,3,4,5,6],[],[]⟩,[(.exit 2,⟨[0,3,4],[],[]⟩),(.ret,⟨[2],[],[]⟩)]⟩ (B9 Tryz.f80 9)
noncomputable def K3:List V->VH->Option (Option Nat × List V × VH):=C0 (vb.ctx cv o6) (vb.b.I0 80) (vb.C3 80) ⟨⟨[0,3,4],[],[]⟩,[(.exit 0,⟨[0],[],[]⟩),(.ret,⟨[2],[],[]⟩)]⟩ (B9 Tryz.f80 3)
theorem acC (v0 v1 v2 v3 v4:V) (H:VH):Z6 [v0,v1,v2,v3,v4] H =
 (p8 v3).bind fun x43 =>
 (a8 (.int .i64) .lss v4 x43).bind fun x44 =>
 j9 x44 (
 (id (
 (o7 (strip v3) (strip v4)).bind fun x47 =>
 (qc aac [(j8 H x47)]).bind fun x48 =>
 (G9 .not x48).bind fun x49 =>
 l7 x49 (
 (o7 (strip (strip v3)) (strip (strip v4))).bind fun x53 =>
 (a8 (.int .u8) .neq x53 (.int .u8 45)).bind fun x54 =>
 l7 x54 (
 some (0,[(.bool false)],H)) (
 (o7 (strip (strip (strip v3))) (strip (strip (strip v4)))).bind fun x61 =>
 (a8 (.int .u8) .geq x61 (.int .u8 65)).bind fun x62 =>
 l7 x62 (
 (o7 (strip (strip (strip (strip v3)))) (strip (strip (strip (strip v4))))).bind fun x66 =>
 (a8 (.int .u8) .leq x66 (.int .u8 90)).bind fun x67 =>
 j9 x67 (
 some (0,[(.bool false)],H)) (
 some (1,[v0,v1,v2,(strip (strip (strip (strip (strip v3))))),(strip (strip (strip (strip (strip v4)))))],H))) (
 some (1,[v0,v1,v2,(strip (strip (strip (strip v3)))),(strip (strip (strip (strip v4))))],H)))) (
 (o7 (strip (strip v3)) (strip (strip v4))).bind fun x77 =>
 (a8 (.int .u8) .geq x77 (.int .u8 65)).bind fun x78 =>
 l7 x78 (
 (o7 (strip (strip (strip v3))) (strip (strip (strip v4)))).bind fun x82 =>
 (a8 (.int .u8) .leq x82 (.int .u8 90)).bind fun x83 =>
 j9 x83 (
 some (0,[(.bool false)],H)) (
 some (1,[v0,v1,v2,(strip (strip (strip (strip v3)))),(strip (strip (strip (strip v4))))],H))) (
 some (1,[v0,v1,v2,(strip (strip (strip v3))),(strip (strip (strip v4)))],H))):Option (Nat × List V × VH))).bind fun r89 =>
 A2 r89.1 [
 l4 1 r89.2.1 fun v90 =>
 some (some 1,[(v90 0)],r89.2.2),
 l4 5 r89.2.1 fun v91 =>
 (a8 (.int .i64) .add (v91 4) (.int .i64 1)).bind fun x93 =>
 some (none,[(v91 0),(v91 1),(v91 2),(v91 3),x93],r89.2.2)]) (
 some (some 0,[v0,v1,v2],H)):=by kernel_rfl
theorem acD (v0 v1 v2:V) (H:VH):K3 [v0,v1,v2] H =
 (D2 (strip v1)).bind fun x7 =>
 (a8 (.int .i64) .lss v2 x7).bind fun x8 =>
 j9 x8 (
 (id (
 (E1 1 (strip v1) (strip v2)).bind fun x11 =>
 (G7 C4 false false 1 x11 H).bind fun r13 =>
 (id (
 (a8 .str .eql r13.1 (.str [])).bind fun x16 =>
 l7 x16 (
 some (0,[(.bool false)],r13.2)) (
 (o7 (strip r13.1) (.int .i64 0)).bind fun x23 =>
 (a8 (.int .u8) .eql x23 (.int .u8 45)).bind fun x24 =>
 l7 x24 (
 some (0,[(.bool false)],r13.2)) (
 (p8 (strip (strip (strip r13.1)))).bind fun x31 =>
 (a8 (.int .i64) .sub x31 (.int .i64 1)).bind fun x32 =>
 (o7 (strip (strip r13.1)) x32).bind fun x33 =>
 (a8 (.int .u8) .eql x33 (.int .u8 45)).bind fun x34 =>
 j9 x34 (
 some (0,[(.bool false)],r13.2)) (
 some (1,[v0,v1,(strip (strip v2)),(strip (strip (strip (strip r13.1))))],r13.2)))):Option (Nat × List V × VH))).bind fun r37 =>
 A2 r37.1 [
 l4 1 r37.2.1 fun v38 =>
 some (0,[(v38 0)],r37.2.2),
 l4 4 r37.2.1 fun v39 =>
 (o6 Z6 [(v39 0),(v39 1),(v39 2),(v39 3),(.int .i64 0)] r37.2.2).bind fun r95 =>
 A2 r95.1 [
 l4 3 r95.2.1 fun v96 =>
 some (1,[(v96 0),(v96 1),(v96 2)],r95.2.2),
 l4 1 r95.2.1 fun v97 =>
 some (0,[(v97 0)],r95.2.2)]]:Option (Nat × List V × VH))).bind fun r98 =>
 A2 r98.1 [
 l4 1 r98.2.1 fun v99 =>
 some (some 1,[(v99 0)],r98.2.2),
 l4 3 r98.2.1 fun v100 =>
 (a8 (.int .i64) .add (v100 2) (.int .i64 1)).bind fun x102 =>
 some (none,[(v100 0),(v100 1),x102],r98.2.2)]) (
 some (some 0,[v0],H)):=by kernel_rfl
theorem ajJ (a0:V) (H:VH):cv abT [a0] H =
 (pc L9 [(j8 H a0),(j8 H (.int .u8 46))]).bind fun x2 =>
 (o6 K3 [(strip a0),(strip x2),(.int .i64 0)] H).bind fun r104 =>
 A2 r104.1 [
 l4 1 r104.2.1 fun v105 =>
 (p8 (v105 0)).bind fun x107 =>
 (a8 (.int .i64) .leq x107 (.int .i64 40)).bind fun x108 =>
 some (x108,r104.2.2),
 l4 1 r104.2.1 fun v110 =>
 some ((v110 0),r104.2.2)]:=(j7 vb _ _ _ rfl).trans (by kernel_rfl)
theorem agk (a0:V) (H:VH):cv Y2 [a0] H =
 (F8 3 a0).bind fun c1 =>
 (qc S0 [(j8 H (.agg [(strip (c1.getD 0 .b7)),(strip (c1.getD 1 .b7)),(strip (c1.getD 2 .b7))]))]).bind fun x4 =>
 (G9 .not x4).bind fun x5 =>
 j9 x5 (
 some ((.str []),H)) (
 (a8 .str .add (strip (c1.getD 1 .b7)) (.str [64])).bind fun x9 =>
 (a8 .str .add x9 (strip (c1.getD 2 .b7))).bind fun x12 =>
 (a8 .str .eql (strip (c1.getD 0 .b7)) (.str [])).bind fun x16 =>
 j9 x16 (
 some (x12,H)) (
 (qc abk [(j8 H (strip (c1.getD 0 .b7)))]).bind fun x21 =>
 (a8 .str .add x21 (.str [32,60])).bind fun x22 =>
 (a8 .str .add x22 x12).bind fun x24 =>
 (a8 .str .add x24 (.str [62])).bind fun x25 =>
 some (x25,H))):=(j7 vb _ _ _ rfl).trans (by kernel_rfl)
theorem ajg (a0:V) (H:VH):cv abk [a0] H =
 (qc X1 [(j8 H a0)]).bind fun x2 =>
 (G9 .not x2).bind fun x3 =>
 j9 x3 (
 some ((.str []),H)) (
 (qc W7 [(j8 H (strip a0))]).bind fun x6 =>
 j9 x6 (
 some ((strip (strip a0)),H)) (
 (qc aas [(j8 H (strip (strip a0)))]).bind fun x10 =>
 some (x10,H))):=(j7 vb _ _ _ rfl).trans (by kernel_rfl)
noncomputable def afk:List V->VH->Option (Option Nat × List V × VH):=C0 (vb.ctx cv o6) (vb.b.I0 144) (vb.C3 144) ⟨⟨[0,3,4],[],[]⟩,[(.exit 0,⟨[3],[],[]⟩)]⟩ (B9 Tryz.f144 3)
theorem ahl (v0 v1 v2:V) (H:VH):afk [v0,v1,v2] H =
 (p8 v0).bind fun x5 =>
 (a8 (.int .i64) .lss v2 x5).bind fun x6 =>
 j9 x6 (
 (id (
 (id (
 (o7 (strip v0) (strip v2)).bind fun x9 =>
 (a8 (.int .u8) .eql x9 (.int .u8 34)).bind fun x10 =>
 l7 x10 (
 (abm (.sl true [[(.int .u8 92)]]) H).bind fun x15 =>
 (a8 .str .add v1 x15).bind fun x16 =>
 some (0,[(strip (strip v0)),x16,(strip (strip v2))],H)) (
 (o7 (strip (strip v0)) (strip (strip v2))).bind fun x20 =>
 (a8 (.int .u8) .eql x20 (.int .u8 92)).bind fun x21 =>
 j9 x21 (
 (abm (.sl true [[(.int .u8 92)]]) H).bind fun x25 =>
 (a8 .str .add v1 x25).bind fun x26 =>
 some (0,[(strip (strip (strip v0))),x26,(strip (strip (strip v2)))],H)) (
 some (0,[(strip (strip (strip v0))),v1,(strip (strip (strip v2)))],H))):Option (Nat × List V × VH))).bind fun r28 =>
 A2 r28.1 [
 l4 3 r28.2.1 fun v29 =>
 (a8 (.int .i64) .add (strip (v29 2)) (.int .i64 1)).bind fun x34 =>
 (y7 (v29 0) (some (v29 2)) (some x34)).bind fun x35 =>
 (a8 .str .add (v29 1) x35).bind fun x36 =>
 some (0,[(strip (v29 0)),x36,(strip (strip (v29 2)))],r28.2.2)]:Option (Nat × List V × VH))).bind fun r38 =>
 A2 r38.1 [
 l4 3 r38.2.1 fun v39 =>
 (a8 (.int .i64) .add (v39 2) (.int .i64 1)).bind fun x41 =>
 some (none,[(v39 0),(v39 1),x41],r38.2.2)]) (
 some (some 0,[v1],H)):=by kernel_rfl
theorem akH (a0:V) (H:VH):cv aas [a0] H =
 (o6 afk [a0,(.str [34]),(.int .i64 0)] H).bind fun r43 =>
 A2 r43.1 [
 l4 1 r43.2.1 fun v44 =>
 (a8 .str .add (v44 0) (.str [34])).bind fun x46 =>
 some (x46,r43.2.2)]:=(j7 vb _ _ _ rfl).trans (by kernel_rfl)
noncomputable def adU:List V->VH->Option (Option Nat × List V × VH):=C0 (vb.ctx cv o6) (vb.b.I0 9) (vb.C3 9) ⟨⟨[3,4,12,13,14],[],[]⟩,[(.exit 0,⟨[4],[],[]⟩),(.ret,⟨[2],[],[]⟩)]⟩ (B9 Tryz.f9 5)
theorem agV (v0 v1 v2 v3 v4:V) (H:VH):adU [v0,v1,v2,v3,v4] H =
 (a8 (.int .i64) .lss v4 v3).bind fun x15 =>
 j9 x15 (
 (E1 1 v2 (strip v4)).bind fun x17 =>
 (G7 C4 false false 1 x17 H).bind fun r19 =>
 (a8 .str .eql r19.1 (.str [])).bind fun x23 =>
 j9 x23 (
 (a8 (.int .i64) .add (strip v4) (.int .i64 1)).bind fun x24 =>
 some (none,[v0,v1,v2,v3,x24],r19.2)) (
 (id (
 (a8 (.int .i64) .geq v4 (.int .i64 200)).bind fun x27 =>
 l7 x27 (
 (a8 .str .add v1 (.str [102,117,108,108,10])).bind fun x31 =>
 some (0,[x31],r19.2)) (
 (p8 v1).bind fun x34 =>
 (a8 (.int .i64) .gtr x34 (.int .i64 40000)).bind fun x35 =>
 j9 x35 (
 (a8 .str .add (strip v1) (.str [102,117,108,108,10])).bind fun x38 =>
 some (0,[x38],r19.2)) (
 some (1,[v0,(strip v1),(strip r19.1),v2,v3,(strip v4)],r19.2))):Option (Nat × List V × VH))).bind fun r40 =>
 A2 r40.1 [
 l4 1 r40.2.1 fun v41 =>
 some (some 1,[(v41 0)],r40.2.2),
 l4 6 r40.2.1 fun v42 =>
 (cv V9 [(strip (v42 0)),(strip (v42 2))] r40.2.2).bind fun r46 =>
 (a8 .str .add (v42 1) r46.1).bind fun x47 =>
 (a8 (.int .i64) .add (v42 5) (.int .i64 1)).bind fun x49 =>
 some (none,[(v42 0),x47,(v42 3),(v42 4),x49],r46.2)])) (
 some (some 0,[v1],H)):=by kernel_rfl
theorem ajf (a0:V) (H:VH):cv G0 [a0] H =
 (p8 a0).bind fun x2 =>
 (a8 (.int .i64) .gtr x2 (.int .i64 20000)).bind fun x3 =>
 j9 x3 (
 some ((.str [108,111,110,103,10]),H)) (
 (pc acq []).bind fun x5 =>
 (F8 14 x5).bind fun c8 =>
 (stO (.ptr H.length 0) [(c8.getD 0 .b7),(c8.getD 1 .b7),(c8.getD 2 .b7),(c8.getD 3 .b7),(c8.getD 4 .b7),(c8.getD 5 .b7),(c8.getD 6 .b7),(c8.getD 7 .b7),(c8.getD 8 .b7),(c8.getD 9 .b7),(c8.getD 10 .b7),(c8.getD 11 .b7),(c8.getD 12 .b7),(c8.getD 13 .b7)] (H++[[(.sl true []),(.int .i64 0),(.str []),(.str []),(.sl true []),(.sl true []),(.sl true []),(.int .i64 0),(.int .i64 0),(.int .i64 0),(.int .i64 0),(.int .i64 0),(.int .i64 0),(.int .i64 0)]])).bind fun H9 =>
 (pc O5 [(j8 H9 (strip a0)),(j8 H9 (.str [10]))]).bind fun x12 =>
 (D2 x12).bind fun x13 =>
 (o6 adU [(.ptr H.length 0),(.str []),x12,x13,(.int .i64 0)] H9).bind fun r51 =>
 A2 r51.1 [
 l4 1 r51.2.1 fun v52 =>
 some ((v52 0),r51.2.2),
 l4 1 r51.2.1 fun v55 =>
 some ((v55 0),r51.2.2)]):=(j7 vb _ _ _ rfl).trans (by kernel_rfl)
theorem akJ (H:VH):cv acq [] H =
 (pc aa2 [(j8 H (.int .i64 1767593289)),(j8 H (.int .i64 60))]).bind fun x1 =>
 (y5 x1 0).bind fun x3 =>
 (y5 x1 1).bind fun x4 =>
 (F8 7 (strip x3)).bind fun c7 =>
 some ((.agg [(.sl true []),(.int .i64 0),(.str []),(.str []),(.sl true []),(.sl true []),(.sl true []),(strip (c7.getD 0 .b7)),(strip (c7.getD 1 .b7)),(strip (c7.getD 2 .b7)),(strip (c7.getD 3 .b7)),(strip (c7.getD 4 .b7)),(strip (c7.getD 5 .b7)),(strip (c7.getD 6 .b7))]),H):=(j7 vb _ _ _ rfl).trans (by kernel_rfl)
noncomputable def afJ:List V->VH->Option (Option Nat × List V × VH):=C0 (vb.ctx cv o6) (vb.b.I0 63) (vb.C3 63) ⟨⟨[7],[(4,(4,0)),(9,(9,0))],[(4,7),(9,7)]⟩,[(.exit 0,⟨[7],[(4,(4,0)),(9,(9,0))],[(4,7),(9,7)]⟩)]⟩ (B9 Tryz.f63 8)
theorem ai0 (v0 v1 v2 v3 v4 v5 v6 v7 v8 v9 v10 v11 v12 v13 v14:V) (H:VH):afJ [v0,v1,v2,v3,v4,v5,v6,v7,v8,v9,v10,v11,v12,v13,v14] H =
 (id (
 (a8 (.int .i64) .leq (strip v8) (.int .i64 2099)).bind fun x53 =>
 l7 x53 (
 (qc S6 [(j8 H (strip v8)),(j8 H (strip v9))]).bind fun x60 =>
 (a8 (.int .i64) .geq v0 x60).bind fun x61 =>
 j9 x61 (
 some (0,[(strip v0),v1,v2,v3,v4,v5,v6,v7,v8,v9,v10,v11,v12,v13,v14],H)) (
 some (1,[(strip v0),v1,v2,v3,v4,v5,v6,v7,v8,v9,v10,v11,v12,v13,v14],H))) (
 some (1,[v0,v1,v2,v3,v4,v5,v6,v7,v8,v9,v10,v11,v12,v13,v14],H)):Option (Nat × List V × VH))).bind fun r64 =>
 A2 r64.1 [
 l4 15 r64.2.1 fun v65 =>
 (qc S6 [(j8 r64.2.2 (strip (v65 8))),(j8 r64.2.2 (strip (v65 9)))]).bind fun x71 =>
 (a8 (.int .i64) .sub (v65 0) x71).bind fun x72 =>
 (a8 (.int .i64) .add (strip (v65 9)) (.int .i64 1)).bind fun x76 =>
 (B4 x76).bind fun y79 =>
 (a8 (.int .i64) .gtr (strip y79) (.int .i64 12)).bind fun x82 =>
 j9 x82 (
 (a8 (.int .i64) .add (strip (v65 8)) (.int .i64 1)).bind fun x85 =>
 (B4 x85).bind fun y88 =>
 some (none,[x72,(v65 1),(v65 2),(v65 3),(v65 4),(v65 5),(v65 6),(v65 7),y88,(.int .i64 1),(v65 10),(v65 11),(v65 12),(v65 13),(v65 14)],r64.2.2)) (
 some (none,[x72,(v65 1),(v65 2),(v65 3),(v65 4),(v65 5),(v65 6),(v65 7),(v65 8),y79,(v65 10),(v65 11),(v65 12),(v65 13),(v65 14)],r64.2.2)),
 l4 15 r64.2.1 fun v91 =>
 some (some 0,[(v91 0),(v91 1),(v91 2),(v91 3),(v91 4),(v91 5),(v91 6),(v91 7),(v91 8),(v91 9),(v91 10),(v91 11),(v91 12),(v91 13),(v91 14)],r64.2.2)]:=by kernel_rfl
theorem amh (a0 a1:V) (H:VH):cv aa2 [a0,a1] H =
 (id (
 (qc G6 [(j8 H a0),(j8 H (.int .i64 0)),(j8 H (.int .i64 4102444799))]).bind fun x3 =>
 (G9 .not x3).bind fun x4 =>
 l7 x4 (
 some (0,[(.bool false),(.int .i64 0),(.int .i64 0),(.int .i64 0),(.int .i64 0),(.int .i64 0),(.int .i64 0),(.int .i64 0)],H)) (
 (qc aaZ [(j8 H a1)]).bind fun x11 =>
 (G9 .not x11).bind fun x12 =>
 j9 x12 (
 some (0,[(.bool false),(.int .i64 0),(.int .i64 0),(.int .i64 0),(.int .i64 0),(.int .i64 0),(.int .i64 0),(.int .i64 0)],H)) (
 some (1,[(strip a0),(strip a1),(.int .i64 0),(.int .i64 0),(.int .i64 0),(.int .i64 0),(.int .i64 0),(.int .i64 0),(.int .i64 0)],H))):Option (Nat × List V × VH))).bind fun r17 =>
 A2 r17.1 [
 l4 8 r17.2.1 fun v18 =>
 some ((.w5 [(.agg [(v18 1),(v18 2),(v18 3),(v18 4),(v18 5),(v18 6),(v18 7)]),(v18 0)]),r17.2.2),
 l4 9 r17.2.1 fun v19 =>
 (a8 (.int .i64) .mul (v19 1) (.int .i64 60)).bind fun x22 =>
 (a8 (.int .i64) .add (v19 0) x22).bind fun x23 =>
 (a8 (.int .i64) .lss x23 (.int .i64 0)).bind fun x26 =>
 j9 x26 (
 some ((.w5 [(.agg [(.int .i64 0),(.int .i64 0),(.int .i64 0),(.int .i64 0),(.int .i64 0),(.int .i64 0),(.int .i64 0)]),(.bool false)]),r17.2.2)) (
 (a8 (.int .i64) .quo (strip x23) (.int .i64 86400)).bind fun x31 =>
 (a8 (.int .i64) .rem (strip (strip x23)) (.int .i64 86400)).bind fun x33 =>
 (a8 (.int .i64) .quo x33 (.int .i64 3600)).bind fun x37 =>
 (a8 (.int .i64) .quo (strip x33) (.int .i64 60)).bind fun x39 =>
 (a8 (.int .i64) .rem x39 (.int .i64 60)).bind fun x40 =>
 (a8 (.int .i64) .rem (strip (strip x33)) (.int .i64 60)).bind fun x42 =>
 (B4 x37).bind fun y45 =>
 (B4 x40).bind fun y46 =>
 (B4 x42).bind fun y47 =>
 (B4 (strip (v19 1))).bind fun y48 =>
 (o6 afJ [x31,(v19 2),(v19 3),(v19 4),(v19 5),(v19 6),(v19 7),(v19 8),(.int .i64 1970),(.int .i64 1),(.int .i64 0),y45,y46,y47,y48] r17.2.2).bind fun r92 =>
 A2 r92.1 [
 l4 15 r92.2.1 fun v93 =>
 (a8 (.int .i64) .add (v93 0) (.int .i64 1)).bind fun x95 =>
 (B4 x95).bind fun y98 =>
 (qc X2 [(j8 r92.2.2 (.agg [(strip (v93 8)),(strip (v93 9)),(strip y98),(strip (v93 11)),(strip (v93 12)),(strip (v93 13)),(strip (v93 14))]))]).bind fun x100 =>
 (G9 .not x100).bind fun x101 =>
 j9 x101 (
 some ((.w5 [(.agg [(.int .i64 0),(.int .i64 0),(.int .i64 0),(.int .i64 0),(.int .i64 0),(.int .i64 0),(.int .i64 0)]),(.bool false)]),r92.2.2)) (
 some ((.w5 [(.agg [(strip (v93 8)),(strip (v93 9)),(strip y98),(strip (v93 11)),(strip (v93 12)),(strip (v93 13)),(strip (v93 14))]),(.bool true)]),r92.2.2))])]:=(j7 vb _ _ _ rfl).trans (by kernel_rfl)
theorem akQ (a0 a1 a2:V) (H:VH):cv G6 [a0,a1,a2] H =
 (a8 (.int .i64) .geq a0 a1).bind fun x3 =>
 l7 x3 (
 (a8 (.int .i64) .leq (strip a0) a2).bind fun x7 =>
 some (x7,H)) (
 some ((.bool false),H)):=(j7 vb _ _ _ rfl).trans (by kernel_rfl)
theorem alS (a0:V) (H:VH):cv aaZ [a0] H =
 (qc G6 [(j8 H a0),(j8 H (.int .i64 (-720))),(j8 H (.int .i64 840))]).bind fun x2 =>
 some (x2,H):=(j7 vb _ _ _ rfl).trans (by kernel_rfl)
theorem aml (a0 a1:V) (H:VH):cv S6 [a0,a1] H =
 (id (
 (a8 (.int .i64) .lss a0 (.int .i64 1970)).bind fun x2 =>
 l7 x2 (
 some (0,[(.int .i64 0)],H)) (
 (a8 (.int .i64) .gtr (strip a0) (.int .i64 2099)).bind fun x7 =>
 j9 x7 (
 some (0,[(.int .i64 0)],H)) (
 some (1,[(strip (strip a0)),a1],H))):Option (Nat × List V × VH))).bind fun r10 =>
 A2 r10.1 [
 l4 1 r10.2.1 fun v11 =>
 some ((v11 0),r10.2.2),
 l4 2 r10.2.1 fun v12 =>
 (id (
 (a8 (.int .i64) .eql (v12 1) (.int .i64 1)).bind fun x14 =>
 j9 x14 (
 some (0,[(v12 0),(v12 1),x14],r10.2.2)) (
 (a8 (.int .i64) .eql (v12 1) (.int .i64 3)).bind fun x16 =>
 j9 x16 (
 some (0,[(v12 0),(v12 1),x16],r10.2.2)) (
 (a8 (.int .i64) .eql (v12 1) (.int .i64 5)).bind fun x18 =>
 j9 x18 (
 some (0,[(v12 0),(v12 1),x18],r10.2.2)) (
 (a8 (.int .i64) .eql (v12 1) (.int .i64 7)).bind fun x20 =>
 j9 x20 (
 some (0,[(v12 0),(v12 1),x20],r10.2.2)) (
 (a8 (.int .i64) .eql (v12 1) (.int .i64 8)).bind fun x22 =>
 j9 x22 (
 some (0,[(v12 0),(v12 1),x22],r10.2.2)) (
 (a8 (.int .i64) .eql (v12 1) (.int .i64 10)).bind fun x24 =>
 j9 x24 (
 some (0,[(v12 0),(v12 1),x24],r10.2.2)) (
 (a8 (.int .i64) .eql (v12 1) (.int .i64 12)).bind fun x26 =>
 some (0,[(v12 0),(v12 1),x26],r10.2.2))))))):Option (Nat × List V × VH))).bind fun r28 =>
 A2 r28.1 [
 l4 3 r28.2.1 fun v29 =>
 j9 (v29 2) (
 some ((.int .i64 31),r28.2.2)) (
 (id (
 (a8 (.int .i64) .eql (v29 1) (.int .i64 4)).bind fun x31 =>
 j9 x31 (
 some (0,[(v29 0),(v29 1),x31],r28.2.2)) (
 (a8 (.int .i64) .eql (v29 1) (.int .i64 6)).bind fun x33 =>
 j9 x33 (
 some (0,[(v29 0),(v29 1),x33],r28.2.2)) (
 (a8 (.int .i64) .eql (v29 1) (.int .i64 9)).bind fun x35 =>
 j9 x35 (
 some (0,[(v29 0),(v29 1),x35],r28.2.2)) (
 (a8 (.int .i64) .eql (v29 1) (.int .i64 11)).bind fun x37 =>
 some (0,[(v29 0),(v29 1),x37],r28.2.2)))):Option (Nat × List V × VH))).bind fun r39 =>
 A2 r39.1 [
 l4 3 r39.2.1 fun v40 =>
 j9 (v40 2) (
 some ((.int .i64 30),r39.2.2)) (
 (a8 (.int .i64) .eql (v40 1) (.int .i64 2)).bind fun x42 =>
 j9 x42 (
 (a8 (.int .i64) .rem (v40 0) (.int .i64 4)).bind fun x45 =>
 (a8 (.int .i64) .eql x45 (.int .i64 0)).bind fun x46 =>
 l7 x46 (
 (a8 (.int .i64) .rem (strip (v40 0)) (.int .i64 100)).bind fun x49 =>
 (a8 (.int .i64) .neq x49 (.int .i64 0)).bind fun x50 =>
 l7 x50 (
 some ((.int .i64 29),r39.2.2)) (
 (a8 (.int .i64) .rem (strip (strip (v40 0))) (.int .i64 400)).bind fun x56 =>
 (a8 (.int .i64) .eql x56 (.int .i64 0)).bind fun x57 =>
 j9 x57 (
 some ((.int .i64 29),r39.2.2)) (
 some ((.int .i64 28),r39.2.2)))) (
 (a8 (.int .i64) .rem (strip (v40 0)) (.int .i64 400)).bind fun x64 =>
 (a8 (.int .i64) .eql x64 (.int .i64 0)).bind fun x65 =>
 j9 x65 (
 some ((.int .i64 29),r39.2.2)) (
 some ((.int .i64 28),r39.2.2)))) (
 some ((.int .i64 0),r39.2.2)))])]]:=(j7 vb _ _ _ rfl).trans (by kernel_rfl)
theorem ai5 (a0:V) (H:VH):cv X2 [a0] H =
 (F8 7 a0).bind fun c1 =>
 (qc S6 [(j8 H (strip (c1.getD 0 .b7))),(j8 H (strip (c1.getD 1 .b7)))]).bind fun x9 =>
 (qc G6 [(j8 H (strip (c1.getD 2 .b7))),(j8 H (.int .i64 1)),(j8 H x9)]).bind fun x10 =>
 l7 x10 (
 (qc G6 [(j8 H (strip (c1.getD 3 .b7))),(j8 H (.int .i64 0)),(j8 H (.int .i64 23))]).bind fun x14 =>
 l7 x14 (
 (qc G6 [(j8 H (strip (c1.getD 4 .b7))),(j8 H (.int .i64 0)),(j8 H (.int .i64 59))]).bind fun x19 =>
 l7 x19 (
 (qc G6 [(j8 H (strip (c1.getD 5 .b7))),(j8 H (.int .i64 0)),(j8 H (.int .i64 59))]).bind fun x24 =>
 l7 x24 (
 (qc aaZ [(j8 H (strip (c1.getD 6 .b7)))]).bind fun x29 =>
 l7 x29 (
 (qc Y9 [(j8 H (.agg [(strip (c1.getD 0 .b7)),(strip (c1.getD 1 .b7)),(strip (c1.getD 2 .b7)),(strip (c1.getD 3 .b7)),(strip (c1.getD 4 .b7)),(strip (c1.getD 5 .b7)),(strip (c1.getD 6 .b7))]))]).bind fun x33 =>
 (qc G6 [(j8 H x33),(j8 H (.int .i64 0)),(j8 H (.int .i64 4102444799))]).bind fun x34 =>
 some (x34,H)) (
 some ((.bool false),H))) (
 some ((.bool false),H))) (
 some ((.bool false),H))) (
 some ((.bool false),H))) (
 some ((.bool false),H)):=(j7 vb _ _ _ rfl).trans (by kernel_rfl)
theorem agT (a0:V) (H:VH):cv Y9 [a0] H =
 (F8 7 a0).bind fun c1 =>
 (qc U9 [(j8 H (strip (c1.getD 0 .b7))),(j8 H (strip (c1.getD 1 .b7))),(j8 H (strip (c1.getD 2 .b7)))]).bind fun x9 =>
 (a8 (.int .i64) .mul x9 (.int .i64 86400)).bind fun x10 =>
 (a8 (.int .i64) .mul (strip (c1.getD 3 .b7)) (.int .i64 3600)).bind fun x13 =>
 (a8 (.int .i64) .add x10 x13).bind fun x14 =>
 (a8 (.int .i64) .mul (strip (c1.getD 4 .b7)) (.int .i64 60)).bind fun x17 =>
 (a8 (.int .i64) .add x14 x17).bind fun x18 =>
 (a8 (.int .i64) .add x18 (strip (c1.getD 5 .b7))).bind fun x21 =>
 (a8 (.int .i64) .mul (strip (c1.getD 6 .b7)) (.int .i64 60)).bind fun x24 =>
 (a8 (.int .i64) .sub x21 x24).bind fun x25 =>
 some (x25,H):=(j7 vb _ _ _ rfl).trans (by kernel_rfl)
noncomputable def aaX:List V->VH->Option (Option Nat × List V × VH):=C0 (vb.ctx cv o6) (vb.b.I0 175) (vb.C3 175) ⟨⟨[0,1,7,8,9],[],[]⟩,[(.exit 2,⟨[0,1,7,8],[],[]⟩)]⟩ (B9 Tryz.f175 6)
noncomputable def adk:List V->VH->Option (Option Nat × List V × VH):=C0 (vb.ctx cv o6) (vb.b.I0 175) (vb.C3 175) ⟨⟨[0,1,7,8],[],[]⟩,[(.exit 0,⟨[7],[],[]⟩)]⟩ (B9 Tryz.f175 3)
theorem afN (v0 v1 v2 v3 v4:V) (H:VH):aaX [v0,v1,v2,v3,v4] H =
 (id (
 (a8 (.int .i64) .leq v4 (.int .i64 12)).bind fun x10 =>
 l7 x10 (
 (a8 (.int .i64) .lss v3 v0).bind fun x14 =>
 l7 x14 (
 some (0,[(strip v0),v1,v2,(strip v3),(strip v4)],H)) (
 (a8 (.int .i64) .lss (strip v4) v1).bind fun x20 =>
 j9 x20 (
 some (0,[(strip v0),(strip v1),v2,(strip v3),(strip (strip v4))],H)) (
 some (1,[(strip v0),(strip v1),v2,(strip v3)],H)))) (
 some (1,[v0,v1,v2,v3],H)):Option (Nat × List V × VH))).bind fun r24 =>
 A2 r24.1 [
 l4 5 r24.2.1 fun v25 =>
 (qc S6 [(j8 r24.2.2 (v25 3)),(j8 r24.2.2 (v25 4))]).bind fun x29 =>
 (a8 (.int .i64) .add (v25 2) x29).bind fun x30 =>
 (a8 (.int .i64) .add (strip (v25 4)) (.int .i64 1)).bind fun x33 =>
 some (none,[(v25 0),(v25 1),x30,(strip (v25 3)),x33],r24.2.2),
 l4 4 r24.2.1 fun v35 =>
 some (some 0,[(v35 0),(v35 1),(v35 2),(v35 3)],r24.2.2)]:=by kernel_rfl
theorem af9 (v0 v1 v2 v3:V) (H:VH):adk [v0,v1,v2,v3] H =
 (a8 (.int .i64) .leq v3 v0).bind fun x7 =>
 j9 x7 (
 (o6 aaX [(strip v0),v1,v2,(strip v3),(.int .i64 1)] H).bind fun r36 =>
 A2 r36.1 [
 l4 4 r36.2.1 fun v37 =>
 (a8 (.int .i64) .add (v37 3) (.int .i64 1)).bind fun x39 =>
 some (none,[(v37 0),(v37 1),(v37 2),x39],r36.2.2)]) (
 some (some 0,[v2],H)):=by kernel_rfl
theorem aie (a0 a1 a2:V) (H:VH):cv U9 [a0,a1,a2] H =
 (a8 (.int .i64) .sub a2 (.int .i64 1)).bind fun x2 =>
 (o6 adk [a0,a1,x2,(.int .i64 1970)] H).bind fun r41 =>
 A2 r41.1 [
 l4 1 r41.2.1 fun v42 =>
 some ((v42 0),r41.2.2)]:=(j7 vb _ _ _ rfl).trans (by kernel_rfl)
theorem ai7 (a0 a1:V) (H:VH):cv V9 [a0,a1] H =
 (qc acO [(j8 H a1),(j8 H (.str [32]))]).bind fun x2 =>
 (y5 x2 0).bind fun x4 =>
 (y5 x2 1).bind fun x5 =>
 (y5 x2 2).bind fun x6 =>
 (G9 .not (strip x6)).bind fun x11 =>
 j9 x11 (
 (cv afK [(strip a0),(strip (strip x4))] H).bind fun r15 =>
 some (r15.1,r15.2)) (
 (a8 .str .eql (strip x4) (.str [115,97,121])).bind fun x18 =>
 j9 x18 (
 (cv ag6 [(strip a0),(strip (strip x5))] H).bind fun r23 =>
 some (r23.1,r23.2)) (
 (a8 .str .eql (strip x4) (.str [98,111,120])).bind fun x25 =>
 j9 x25 (
 (R8 a0).bind fun x28 =>
 (Q2 x28 0).bind fun x29 =>
 (G7 C4 false false 1 x29 H).bind fun r31 =>
 (pc alW [(j8 r31.2 r31.1),(j8 r31.2 (strip x5))]).bind fun x33 =>
 (y5 x33 0).bind fun x35 =>
 (y5 (acG 0 x33) 1).bind fun x36 =>
 (G9 .not (strip x36)).bind fun x40 =>
 j9 x40 (
 some ((.str [119,104,97,116,10]),r31.2)) (
 (R8 (strip a0)).bind fun x44 =>
 (Q2 x44 0).bind fun x45 =>
 (B4 x35).bind fun y47 =>
 (stO x45 [y47] r31.2).bind fun H48 =>
 some ((.str [111,107,10]),H48))) (
 (a8 .str .eql (strip x4) (.str [116,97,107,101])).bind fun x50 =>
 j9 x50 (
 (cv ajd [(strip a0),(strip (strip x5))] H).bind fun r55 =>
 some (r55.1,r55.2)) (
 (a8 .str .eql (strip x4) (.str [100,97,116,101])).bind fun x57 =>
 j9 x57 (
 (pc ajb [(j8 H (strip x5))]).bind fun x60 =>
 (y5 x60 0).bind fun x62 =>
 (y5 x60 1).bind fun x63 =>
 (F8 7 (strip x62)).bind fun c66 =>
 (G9 .not (strip x63)).bind fun x69 =>
 j9 x69 (
 some ((.str [119,104,97,116,10]),H)) (
 (R8 a0).bind fun x73 =>
 (Q2 x73 7).bind fun x74 =>
 (stO x74 [(strip (c66.getD 0 .b7)),(strip (c66.getD 1 .b7)),(strip (c66.getD 2 .b7)),(strip (c66.getD 3 .b7)),(strip (c66.getD 4 .b7)),(strip (c66.getD 5 .b7)),(strip (c66.getD 6 .b7))] H).bind fun H76 =>
 (qc ahR [(j8 H76 (.agg [(strip (c66.getD 0 .b7)),(strip (c66.getD 1 .b7)),(strip (c66.getD 2 .b7)),(strip (c66.getD 3 .b7)),(strip (c66.getD 4 .b7)),(strip (c66.getD 5 .b7)),(strip (c66.getD 6 .b7))]))]).bind fun x78 =>
 (a8 .str .add x78 (.str [10])).bind fun x79 =>
 some (x79,H76))) (
 (qc K5 [(j8 H (strip (strip x4))),(j8 H (strip x5))]).bind fun x83 =>
 (y5 x83 0).bind fun x85 =>
 (y5 x83 1).bind fun x86 =>
 (G9 .not (strip x86)).bind fun x90 =>
 j9 x90 (
 some ((.str [119,104,97,116,10]),H)) (
 (a8 .str .add (.str [61,32]) (strip x85)).bind fun x93 =>
 (a8 .str .add x93 (.str [10])).bind fun x94 =>
 some (x94,H))))))):=(j7 vb _ _ _ rfl).trans (by kernel_rfl)
theorem al7 (a0 a1:V) (H:VH):cv acO [a0,a1] H =
 (qc P5 [(j8 H a0),(j8 H a1)]).bind fun x5 =>
 (y5 x5 0).bind fun x6 =>
 (y5 x5 1).bind fun x7 =>
 (y5 x5 2).bind fun x8 =>
 some ((.w5 [(strip x6),(strip x7),(strip x8)]),H):=(j7 vb _ _ _ rfl).trans (by kernel_rfl)
theorem adw (a0 a1:V) (H:VH):cv P5 [a0,a1] H =
 (qc H7 [(j8 H a0),(j8 H a1)]).bind fun x5 =>
 (a8 (.int .i64) .geq x5 (.int .i64 0)).bind fun x8 =>
 j9 x8 (
 (y7 (strip a0) none (some (strip x5))).bind fun x11 =>
 (p8 (strip a1)).bind fun x15 =>
 (a8 (.int .i64) .add (strip (strip x5)) x15).bind fun x16 =>
 (y7 (strip (strip a0)) (some x16) none).bind fun x17 =>
 some ((.w5 [x11,x17,(.bool true)]),H)) (
 some ((.w5 [(strip a0),(.str []),(.bool false)]),H)):=(j7 vb _ _ _ rfl).trans (by kernel_rfl)
theorem akf (a0 a1:V) (H:VH):cv K5 [a0,a1] H =
 (a8 .str .eql a0 (.str [97,100,100,114,101,115,115])).bind fun x3 =>
 j9 x3 (
 (pc M5 [(j8 H a1)]).bind fun x6 =>
 (y5 x6 0).bind fun x8 =>
 (y5 x6 1).bind fun x9 =>
 (F8 3 (strip x8)).bind fun c12 =>
 (qc Q5 [(j8 H (.agg [(strip (c12.getD 0 .b7)),(strip (c12.getD 1 .b7)),(strip (c12.getD 2 .b7))]))]).bind fun x15 =>
 some ((.w5 [x15,(strip x9)]),H)) (
 (a8 .str .eql a0 (.str [108,105,115,116])).bind fun x19 =>
 j9 x19 (
 (pc W1 [(j8 H a1)]).bind fun x22 =>
 (y5 x22 0).bind fun x24 =>
 (y5 x22 1).bind fun x25 =>
 (qc P6 [(j8 H (strip (strip (strip x24))))]).bind fun x29 =>
 l7 (strip x25) (
 (a8 .str .neq (strip x29) (.str [])).bind fun x35 =>
 l7 x35 (
 some ((.w5 [x29,(.bool true)]),H)) (
 (D2 (strip (strip (strip x24)))).bind fun x42 =>
 (a8 (.int .i64) .eql x42 (.int .i64 0)).bind fun x43 =>
 some ((.w5 [x29,x43]),H))) (
 some ((.w5 [x29,(.bool false)]),H))) (
 (a8 .str .eql a0 (.str [107,105,110,100])).bind fun x51 =>
 j9 x51 (
 (pc aiV [(j8 H a1)]).bind fun x54 =>
 (y5 x54 0).bind fun x56 =>
 (y5 x54 1).bind fun x57 =>
 (F8 3 (strip x56)).bind fun c60 =>
 (qc ah4 [(j8 H (.agg [(strip (c60.getD 0 .b7)),(strip (c60.getD 1 .b7)),(strip (c60.getD 2 .b7))]))]).bind fun x63 =>
 some ((.w5 [x63,(strip x57)]),H)) (
 (a8 .str .eql a0 (.str [110,97,109,101])).bind fun x67 =>
 j9 x67 (
 (qc ahN [(j8 H a1)]).bind fun x70 =>
 (y5 x70 0).bind fun x72 =>
 (y5 x70 1).bind fun x73 =>
 (qc ahz [(j8 H (strip x72))]).bind fun x77 =>
 (y5 x77 0).bind fun x79 =>
 (y5 x77 1).bind fun x80 =>
 l7 (strip x73) (
 some ((.w5 [(strip x79),(strip x80)]),H)) (
 some ((.w5 [(strip x79),(.bool false)]),H))) (
 some ((.w5 [(.str []),(.bool false)]),H))))):=(j7 vb _ _ _ rfl).trans (by kernel_rfl)
theorem aha (a0:V) (H:VH):cv M5 [a0] H =
 (qc I8 [(j8 H a0)]).bind fun x3 =>
 (G9 .not x3).bind fun x4 =>
 j9 x4 (
 some ((.w5 [(.agg [(.str []),(.str []),(.str [])]),(.bool false)]),H)) (
 (qc aaz [(j8 H (strip a0)),(j8 H (.str [32]))]).bind fun x9 =>
 (qc J1 [(j8 H x9),(j8 H (.int .u8 60))]).bind fun x12 =>
 (a8 (.int .i64) .lss x12 (.int .i64 0)).bind fun x15 =>
 j9 x15 (
 (pc S7 [(j8 H (strip x9)),(j8 H (.str []))]).bind fun x17 =>
 (y5 x17 0).bind fun x18 =>
 (y5 x17 1).bind fun x19 =>
 (F8 3 (strip x18)).bind fun c21 =>
 some ((.w5 [(.agg [(c21.getD 0 .b7),(c21.getD 1 .b7),(c21.getD 2 .b7)]),(strip x19)]),H)) (
 (y7 (strip x9) none (some (strip x12))).bind fun x25 =>
 (pc U6 [(j8 H x25)]).bind fun x26 =>
 (y5 x26 0).bind fun x28 =>
 (y5 x26 1).bind fun x29 =>
 (a8 (.int .i64) .add (strip (strip x12)) (.int .i64 1)).bind fun x34 =>
 (y7 (strip (strip x9)) (some x34) none).bind fun x35 =>
 (qc Z4 [(j8 H x35),(j8 H (.str [62]))]).bind fun x36 =>
 (y5 x36 0).bind fun x38 =>
 (y5 x36 1).bind fun x39 =>
 (id (
 (G9 .not (strip x29)).bind fun x43 =>
 l7 x43 (
 some (0,[(.bool false),(.str []),(.str []),(.str [])],H)) (
 (G9 .not (strip x39)).bind fun x50 =>
 j9 x50 (
 some (0,[(.bool false),(.str []),(.str []),(.str [])],H)) (
 some (1,[(strip (strip x28)),(strip x38),(.str []),(.str []),(.str [])],H))):Option (Nat × List V × VH))).bind fun r55 =>
 A2 r55.1 [
 l4 4 r55.2.1 fun v56 =>
 some ((.w5 [(.agg [(v56 1),(v56 2),(v56 3)]),(v56 0)]),r55.2.2),
 l4 5 r55.2.1 fun v57 =>
 (cv aaw [(strip (strip (v57 0))),(.str [32])] r55.2.2).bind fun r61 =>
 (pc S7 [(j8 r61.2 (v57 1)),(j8 r61.2 r61.1)]).bind fun x62 =>
 (y5 x62 0).bind fun x63 =>
 (y5 x62 1).bind fun x64 =>
 (F8 3 (strip x63)).bind fun c66 =>
 some ((.w5 [(.agg [(c66.getD 0 .b7),(c66.getD 1 .b7),(c66.getD 2 .b7)]),(strip x64)]),r61.2)])):=(j7 vb _ _ _ rfl).trans (by kernel_rfl)
theorem akx (a0 a1:V) (H:VH):cv aaz [a0,a1] H =
 (id (
 (a8 .str .eql a0 (.str [])).bind fun x2 =>
 l7 x2 (
 some (0,[(strip a0)],H)) (
 (a8 .str .eql a1 (.str [])).bind fun x8 =>
 j9 x8 (
 some (0,[(strip a0)],H)) (
 some (1,[(strip a0),(strip a1)],H))):Option (Nat × List V × VH))).bind fun r12 =>
 A2 r12.1 [
 l4 1 r12.2.1 fun v13 =>
 some ((v13 0),r12.2.2),
 l4 2 r12.2.1 fun v14 =>
 (id (
 (p8 (v14 1)).bind fun x16 =>
 (a8 (.int .i64) .eql x16 (.int .i64 1)).bind fun x17 =>
 l7 x17 (
 (o7 (strip (v14 1)) (.int .i64 0)).bind fun x20 =>
 (a8 (.int .u8) .lss x20 (.int .u8 128)).bind fun x21 =>
 j9 x21 (
 (o7 (strip (strip (v14 1))) (.int .i64 0)).bind fun x25 =>
 (qc I2 [(j8 r12.2.2 (v14 0)),(j8 r12.2.2 x25)]).bind fun x26 =>
 (o7 (strip (strip (strip (v14 1)))) (.int .i64 0)).bind fun x28 =>
 (qc I7 [(j8 r12.2.2 x26),(j8 r12.2.2 x28)]).bind fun x29 =>
 some (0,[x29],r12.2.2)) (
 some (1,[(v14 0),(strip (strip (v14 1)))],r12.2.2))) (
 some (1,[(v14 0),(strip (v14 1))],r12.2.2)):Option (Nat × List V × VH))).bind fun r32 =>
 A2 r32.1 [
 l4 1 r32.2.1 fun v33 =>
 some ((v33 0),r32.2.2),
 l4 2 r32.2.1 fun v34 =>
 (pc aeV [(j8 r32.2.2 (v34 1))]).bind fun x36 =>
 (y5 x36 0).bind fun x38 =>
 (y5 x36 1).bind fun x39 =>
 (F8 256 (strip x38)).bind fun c42 =>
 (stO (.ptr r32.2.2.length 0) [(c42.getD 0 .b7),(c42.getD 1 .b7),(c42.getD 2 .b7),(c42.getD 3 .b7),(c42.getD 4 .b7),(c42.getD 5 .b7),(c42.getD 6 .b7),(c42.getD 7 .b7),(c42.getD 8 .b7),(c42.getD 9 .b7),(c42.getD 10 .b7),(c42.getD 11 .b7),(c42.getD 12 .b7),(c42.getD 13 .b7),(c42.getD 14 .b7),(c42.getD 15 .b7),(c42.getD 16 .b7),(c42.getD 17 .b7),(c42.getD 18 .b7),(c42.getD 19 .b7),(c42.getD 20 .b7),(c42.getD 21 .b7),(c42.getD 22 .b7),(c42.getD 23 .b7),(c42.getD 24 .b7),(c42.getD 25 .b7),(c42.getD 26 .b7),(c42.getD 27 .b7),(c42.getD 28 .b7),(c42.getD 29 .b7),(c42.getD 30 .b7),(c42.getD 31 .b7),(c42.getD 32 .b7),(c42.getD 33 .b7),(c42.getD 34 .b7),(c42.getD 35 .b7),(c42.getD 36 .b7),(c42.getD 37 .b7),(c42.getD 38 .b7),(c42.getD 39 .b7),(c42.getD 40 .b7),(c42.getD 41 .b7),(c42.getD 42 .b7),(c42.getD 43 .b7),(c42.getD 44 .b7),(c42.getD 45 .b7),(c42.getD 46 .b7),(c42.getD 47 .b7),(c42.getD 48 .b7),(c42.getD 49 .b7),(c42.getD 50 .b7),(c42.getD 51 .b7),(c42.getD 52 .b7),(c42.getD 53 .b7),(c42.getD 54 .b7),(c42.getD 55 .b7),(c42.getD 56 .b7),(c42.getD 57 .b7),(c42.getD 58 .b7),(c42.getD 59 .b7),(c42.getD 60 .b7),(c42.getD 61 .b7),(c42.getD 62 .b7),(c42.getD 63 .b7),(c42.getD 64 .b7),(c42.getD 65 .b7),(c42.getD 66 .b7),(c42.getD 67 .b7),(c42.getD 68 .b7),(c42.getD 69 .b7),(c42.getD 70 .b7),(c42.getD 71 .b7),(c42.getD 72 .b7),(c42.getD 73 .b7),(c42.getD 74 .b7),(c42.getD 75 .b7),(c42.getD 76 .b7),(c42.getD 77 .b7),(c42.getD 78 .b7),(c42.getD 79 .b7),(c42.getD 80 .b7),(c42.getD 81 .b7),(c42.getD 82 .b7),(c42.getD 83 .b7),(c42.getD 84 .b7),(c42.getD 85 .b7),(c42.getD 86 .b7),(c42.getD 87 .b7),(c42.getD 88 .b7),(c42.getD 89 .b7),(c42.getD 90 .b7),(c42.getD 91 .b7),(c42.getD 92 .b7),(c42.getD 93 .b7),(c42.getD 94 .b7),(c42.getD 95 .b7),(c42.getD 96 .b7),(c42.getD 97 .b7),(c42.getD 98 .b7),(c42.getD 99 .b7),(c42.getD 100 .b7),(c42.getD 101 .b7),(c42.getD 102 .b7),(c42.getD 103 .b7),(c42.getD 104 .b7),(c42.getD 105 .b7),(c42.getD 106 .b7),(c42.getD 107 .b7),(c42.getD 108 .b7),(c42.getD 109 .b7),(c42.getD 110 .b7),(c42.getD 111 .b7),(c42.getD 112 .b7),(c42.getD 113 .b7),(c42.getD 114 .b7),(c42.getD 115 .b7),(c42.getD 116 .b7),(c42.getD 117 .b7),(c42.getD 118 .b7),(c42.getD 119 .b7),(c42.getD 120 .b7),(c42.getD 121 .b7),(c42.getD 122 .b7),(c42.getD 123 .b7),(c42.getD 124 .b7),(c42.getD 125 .b7),(c42.getD 126 .b7),(c42.getD 127 .b7),(c42.getD 128 .b7),(c42.getD 129 .b7),(c42.getD 130 .b7),(c42.getD 131 .b7),(c42.getD 132 .b7),(c42.getD 133 .b7),(c42.getD 134 .b7),(c42.getD 135 .b7),(c42.getD 136 .b7),(c42.getD 137 .b7),(c42.getD 138 .b7),(c42.getD 139 .b7),(c42.getD 140 .b7),(c42.getD 141 .b7),(c42.getD 142 .b7),(c42.getD 143 .b7),(c42.getD 144 .b7),(c42.getD 145 .b7),(c42.getD 146 .b7),(c42.getD 147 .b7),(c42.getD 148 .b7),(c42.getD 149 .b7),(c42.getD 150 .b7),(c42.getD 151 .b7),(c42.getD 152 .b7),(c42.getD 153 .b7),(c42.getD 154 .b7),(c42.getD 155 .b7),(c42.getD 156 .b7),(c42.getD 157 .b7),(c42.getD 158 .b7),(c42.getD 159 .b7),(c42.getD 160 .b7),(c42.getD 161 .b7),(c42.getD 162 .b7),(c42.getD 163 .b7),(c42.getD 164 .b7),(c42.getD 165 .b7),(c42.getD 166 .b7),(c42.getD 167 .b7),(c42.getD 168 .b7),(c42.getD 169 .b7),(c42.getD 170 .b7),(c42.getD 171 .b7),(c42.getD 172 .b7),(c42.getD 173 .b7),(c42.getD 174 .b7),(c42.getD 175 .b7),(c42.getD 176 .b7),(c42.getD 177 .b7),(c42.getD 178 .b7),(c42.getD 179 .b7),(c42.getD 180 .b7),(c42.getD 181 .b7),(c42.getD 182 .b7),(c42.getD 183 .b7),(c42.getD 184 .b7),(c42.getD 185 .b7),(c42.getD 186 .b7),(c42.getD 187 .b7),(c42.getD 188 .b7),(c42.getD 189 .b7),(c42.getD 190 .b7),(c42.getD 191 .b7),(c42.getD 192 .b7),(c42.getD 193 .b7),(c42.getD 194 .b7),(c42.getD 195 .b7),(c42.getD 196 .b7),(c42.getD 197 .b7),(c42.getD 198 .b7),(c42.getD 199 .b7),(c42.getD 200 .b7),(c42.getD 201 .b7),(c42.getD 202 .b7),(c42.getD 203 .b7),(c42.getD 204 .b7),(c42.getD 205 .b7),(c42.getD 206 .b7),(c42.getD 207 .b7),(c42.getD 208 .b7),(c42.getD 209 .b7),(c42.getD 210 .b7),(c42.getD 211 .b7),(c42.getD 212 .b7),(c42.getD 213 .b7),(c42.getD 214 .b7),(c42.getD 215 .b7),(c42.getD 216 .b7),(c42.getD 217 .b7),(c42.getD 218 .b7),(c42.getD 219 .b7),(c42.getD 220 .b7),(c42.getD 221 .b7),(c42.getD 222 .b7),(c42.getD 223 .b7),(c42.getD 224 .b7),(c42.getD 225 .b7),(c42.getD 226 .b7),(c42.getD 227 .b7),(c42.getD 228 .b7),(c42.getD 229 .b7),(c42.getD 230 .b7),(c42.getD 231 .b7),(c42.getD 232 .b7),(c42.getD 233 .b7),(c42.getD 234 .b7),(c42.getD 235 .b7),(c42.getD 236 .b7),(c42.getD 237 .b7),(c42.getD 238 .b7),(c42.getD 239 .b7),(c42.getD 240 .b7),(c42.getD 241 .b7),(c42.getD 242 .b7),(c42.getD 243 .b7),(c42.getD 244 .b7),(c42.getD 245 .b7),(c42.getD 246 .b7),(c42.getD 247 .b7),(c42.getD 248 .b7),(c42.getD 249 .b7),(c42.getD 250 .b7),(c42.getD 251 .b7),(c42.getD 252 .b7),(c42.getD 253 .b7),(c42.getD 254 .b7),(c42.getD 255 .b7)] (r32.2.2++[[(.bool false),(.bool false),(.bool false),(.bool false),(.bool false),(.bool false),(.bool false),(.bool false),(.bool false),(.bool false),(.bool false),(.bool false),(.bool false),(.bool false),(.bool false),(.bool false),(.bool false),(.bool false),(.bool false),(.bool false),(.bool false),(.bool false),(.bool false),(.bool false),(.bool false),(.bool false),(.bool false),(.bool false),(.bool false),(.bool false),(.bool false),(.bool false),(.bool false),(.bool false),(.bool false),(.bool false),(.bool false),(.bool false),(.bool false),(.bool false),(.bool false),(.bool false),(.bool false),(.bool false),(.bool false),(.bool false),(.bool false),(.bool false),(.bool false),(.bool false),(.bool false),(.bool false),(.bool false),(.bool false),(.bool false),(.bool false),(.bool false),(.bool false),(.bool false),(.bool false),(.bool false),(.bool false),(.bool false),(.bool false),(.bool false),(.bool false),(.bool false),(.bool false),(.bool false),(.bool false),(.bool false),(.bool false),(.bool false),(.bool false),(.bool false),(.bool false),(.bool false),(.bool false),(.bool false),(.bool false),(.bool false),(.bool false),(.bool false),(.bool false),(.bool false),(.bool false),(.bool false),(.bool false),(.bool false),(.bool false),(.bool false),(.bool false),(.bool false),(.bool false),(.bool false),(.bool false),(.bool false),(.bool false),(.bool false),(.bool false),(.bool false),(.bool false),(.bool false),(.bool false),(.bool false),(.bool false),(.bool false),(.bool false),(.bool false),(.bool false),(.bool false),(.bool false),(.bool false),(.bool false),(.bool false),(.bool false),(.bool false),(.bool false),(.bool false),(.bool false),(.bool false),(.bool false),(.bool false),(.bool false),(.bool false),(.bool false),(.bool false),(.bool false),(.bool false),(.bool false),(.bool false),(.bool false),(.bool false),(.bool false),(.bool false),(.bool false),(.bool false),(.bool false),(.bool false),(.bool false),(.bool false),(.bool false),(.bool false),(.bool false),(.bool false),(.bool false),(.bool false),(.bool false),(.bool false),(.bool false),(.bool false),(.bool false),(.bool false),(.bool false),(.bool false),(.bool false),(.bool false),(.bool false),(.bool false),(.bool false),(.bool false),(.bool false),(.bool false),(.bool false),(.bool false),(.bool false),(.bool false),(.bool false),(.bool false),(.bool false),(.bool false),(.bool false),(.bool false),(.bool false),(.bool false),(.bool false),(.bool false),(.bool false),(.bool false),(.bool false),(.bool false),(.bool false),(.bool false),(.bool false),(.bool false),(.bool false),(.bool false),(.bool false),(.bool false),(.bool false),(.bool false),(.bool false),(.bool false),(.bool false),(.bool false),(.bool false),(.bool false),(.bool false),(.bool false),(.bool false),(.bool false),(.bool false),(.bool false),(.bool false),(.bool false),(.bool false),(.bool false),(.bool false),(.bool false),(.bool false),(.bool false),(.bool false),(.bool false),(.bool false),(.bool false),(.bool false),(.bool false),(.bool false),(.bool false),(.bool false),(.bool false),(.bool false),(.bool false),(.bool false),(.bool false),(.bool false),(.bool false),(.bool false),(.bool false),(.bool false),(.bool false),(.bool false),(.bool false),(.bool false),(.bool false),(.bool false),(.bool false),(.bool false),(.bool false),(.bool false),(.bool false),(.bool false),(.bool false),(.bool false),(.bool false),(.bool false),(.bool false),(.bool false),(.bool false),(.bool false),(.bool false),(.bool false),(.bool false),(.bool false),(.bool false),(.bool false)]])).bind fun H43 =>
 j9 (strip x39) (
 (cv ad4 [(strip (v34 0)),(.ptr r32.2.2.length 0)] H43).bind fun r48 =>
 (cv aeO [(strip r48.1),(.ptr r32.2.2.length 0)] r48.2).bind fun r50 =>
 some (r50.1,r50.2)) (
 (qc adz [(j8 H43 (v34 0)),(j8 H43 (strip (v34 1)))]).bind fun x54 =>
 (qc adN [(j8 H43 x54),(j8 H43 (strip (strip (v34 1))))]).bind fun x56 =>
 some (x56,H43))]]:=(j7 vb _ _ _ rfl).trans (by kernel_rfl)
noncomputable def aaV:List V->VH->Option (Option Nat × List V × VH):=C0 (vb.ctx cv o6) (vb.b.I0 86) (vb.C3 86) ⟨⟨[0,1],[],[]⟩,[(.exit 0,⟨[0],[],[]⟩)]⟩ (B9 Tryz.f86 1)
theorem adh (v0 v1:V) (H:VH):aaV [v0,v1] H =
 (id (
 (p8 v0).bind fun x2 =>
 (a8 (.int .i64) .gtr x2 (.int .i64 0)).bind fun x3 =>
 l7 x3 (
 (p8 (strip (strip v0))).bind fun x7 =>
 (a8 (.int .i64) .sub x7 (.int .i64 1)).bind fun x8 =>
 (o7 (strip v0) x8).bind fun x9 =>
 (a8 (.int .u8) .eql x9 v1).bind fun x11 =>
 j9 x11 (
 some (0,[(strip (strip (strip v0))),(strip v1)],H)) (
 some (1,[(strip (strip (strip v0)))],H))) (
 some (1,[(strip v0)],H)):Option (Nat × List V × VH))).bind fun r14 =>
 A2 r14.1 [
 l4 2 r14.2.1 fun v15 =>
 (p8 (strip (v15 0))).bind fun x18 =>
 (a8 (.int .i64) .sub x18 (.int .i64 1)).bind fun x19 =>
 (y7 (v15 0) none (some x19)).bind fun x20 =>
 some (none,[x20,(v15 1)],r14.2.2),
 l4 1 r14.2.1 fun v22 =>
 some (some 0,[(v22 0)],r14.2.2)]:=by kernel_rfl
theorem aeR (a0 a1:V) (H:VH):cv I2 [a0,a1] H =
 (o6 aaV [a0,a1] H).bind fun r23 =>
 A2 r23.1 [
 l4 1 r23.2.1 fun v24 =>
 some ((v24 0),r23.2.2)]:=(j7 vb _ _ _ rfl).trans (by kernel_rfl)
noncomputable def abg:List V->VH->Option (Option Nat × List V × VH):=C0 (vb.ctx cv o6) (vb.b.I0 85) (vb.C3 85) ⟨⟨[0,1],[],[]⟩,[(.exit 0,⟨[0],[],[]⟩)]⟩ (B9 Tryz.f85 1)
theorem adH (v0 v1:V) (H:VH):abg [v0,v1] H =
 (id (
 (p8 v0).bind fun x2 =>
 (a8 (.int .i64) .gtr x2 (.int .i64 0)).bind fun x3 =>
 l7 x3 (
 (o7 (strip v0) (.int .i64 0)).bind fun x6 =>
 (a8 (.int .u8) .eql x6 v1).bind fun x8 =>
 j9 x8 (
 some (0,[(strip (strip v0)),(strip v1)],H)) (
 some (1,[(strip (strip v0))],H))) (
 some (1,[(strip v0)],H)):Option (Nat × List V × VH))).bind fun r11 =>
 A2 r11.1 [
 l4 2 r11.2.1 fun v12 =>
 (y7 (v12 0) (some (.int .i64 1)) none).bind fun x14 =>
 some (none,[x14,(v12 1)],r11.2.2),
 l4 1 r11.2.1 fun v16 =>
 some (some 0,[(v16 0)],r11.2.2)]:=by kernel_rfl
theorem aeW (a0 a1:V) (H:VH):cv I7 [a0,a1] H =
 (o6 abg [a0,a1] H).bind fun r17 =>
 A2 r17.1 [
 l4 1 r17.2.1 fun v18 =>
 some ((v18 0),r17.2.2)]:=(j7 vb _ _ _ rfl).trans (by kernel_rfl)
noncomputable def afc:List V->VH->Option (Option Nat × List V × VH):=C0 (vb.ctx cv o6) (vb.b.I0 83) (vb.C3 83) ⟨⟨[0,1,5],[],[]⟩,[(.exit 0,⟨[],[],[]⟩),(.ret,⟨[4],[],[]⟩)]⟩ (B9 Tryz.f83 2)
theorem ahI (v0 v1 v2:V) (H:VH):afc [v0,v1,v2] H =
 (p8 v0).bind fun x4 =>
 (a8 (.int .i64) .lss v2 x4).bind fun x5 =>
 j9 x5 (
 (id (
 (o7 (strip v0) (strip v2)).bind fun x8 =>
 (a8 (.int .u8) .eql x8 (.int .u8 34)).bind fun x9 =>
 j9 x9 (
 (y7 (strip (strip v0)) (some (strip (strip v2))) none).bind fun x13 =>
 (qc Y1 [(j8 H x13)]).bind fun x14 =>
 (y5 x14 0).bind fun x16 =>
 (y5 x14 1).bind fun x17 =>
 (y5 x14 2).bind fun x18 =>
 (G9 .not (strip x18)).bind fun x23 =>
 j9 x23 (
 some (0,[(.int .i64 (-1))],H)) (
 (a8 (.int .i64) .sub (strip x17) (.int .i64 1)).bind fun x27 =>
 (a8 (.int .i64) .add (strip (strip (strip v2))) x27).bind fun x28 =>
 some (1,[(strip (strip (strip v0))),v1,x28],H))) (
 (a8 (.int .u8) .eql x8 v1).bind fun x31 =>
 j9 x31 (
 some (0,[(strip (strip v2))],H)) (
 some (1,[(strip (strip v0)),(strip v1),(strip (strip v2))],H))):Option (Nat × List V × VH))).bind fun r35 =>
 A2 r35.1 [
 l4 1 r35.2.1 fun v36 =>
 some (some 1,[(v36 0)],r35.2.2),
 l4 3 r35.2.1 fun v37 =>
 (a8 (.int .i64) .add (v37 2) (.int .i64 1)).bind fun x39 =>
 some (none,[(v37 0),(v37 1),x39],r35.2.2)]) (
 some (some 0,[],H)):=by kernel_rfl
theorem alI (a0 a1:V) (H:VH):cv J1 [a0,a1] H =
 (o6 afc [a0,a1,(.int .i64 0)] H).bind fun r41 =>
 A2 r41.1 [
 l4 0 r41.2.1 fun v42 =>
 some ((.int .i64 (-1)),r41.2.2),
 l4 1 r41.2.1 fun v44 =>
 some ((v44 0),r41.2.2)]:=(j7 vb _ _ _ rfl).trans (by kernel_rfl)
noncomputable def agh:List V->VH->Option (Option Nat × List V × VH):=C0 (vb.ctx cv o6) (vb.b.I0 92) (vb.C3 92) ⟨⟨[0,5,6],[],[]⟩,[(.exit 0,⟨[],[],[]⟩),(.ret,⟨[2,3,4],[],[]⟩)]⟩ (B9 Tryz.f92 3)
theorem ajc (v0 v1 v2:V) (H:VH):agh [v0,v1,v2] H =
 (p8 v0).bind fun x8 =>
 (a8 (.int .i64) .lss v2 x8).bind fun x9 =>
 j9 x9 (
 (id (
 (id (
 (o7 (strip v0) (strip v2)).bind fun x12 =>
 (a8 (.int .u8) .eql x12 (.int .u8 34)).bind fun x13 =>
 j9 x13 (
 (abm (strip v1) H).bind fun x16 =>
 (a8 (.int .i64) .add (strip (strip v2)) (.int .i64 1)).bind fun x18 =>
 some (0,[x16,x18,(.bool true)],H)) (
 (o7 (strip (strip v0)) (strip (strip v2))).bind fun x24 =>
 (a8 (.int .u8) .eql x24 (.int .u8 92)).bind fun x25 =>
 j9 x25 (
 (a8 (.int .i64) .add (strip (strip (strip v2))) (.int .i64 1)).bind fun x28 =>
 (p8 (strip (strip (strip v0)))).bind fun x32 =>
 (a8 (.int .i64) .eql x28 x32).bind fun x33 =>
 j9 x33 (
 some (0,[(.str []),(.int .i64 0),(.bool false)],H)) (
 some (1,[(strip (strip (strip (strip v0)))),v1,(strip x28)],H))) (
 some (1,[(strip (strip (strip v0))),v1,(strip (strip (strip v2)))],H))):Option (Nat × List V × VH))).bind fun r37 =>
 A2 r37.1 [
 l4 3 r37.2.1 fun v38 =>
 some (0,[(v38 0),(v38 1),(v38 2)],r37.2.2),
 l4 3 r37.2.1 fun v39 =>
 (o7 (v39 0) (v39 2)).bind fun x43 =>
 (B4 x43).bind fun y45 =>
 (Z9 (v39 1)).bind fun s47 =>
 (I6 false 1 1 s47 (.sl true [[y45]])).bind fun x46 =>
 some (1,[(strip (v39 0)),x46,(strip (v39 2))],r37.2.2)]:Option (Nat × List V × VH))).bind fun r49 =>
 A2 r49.1 [
 l4 3 r49.2.1 fun v50 =>
 some (some 1,[(v50 0),(v50 1),(v50 2)],r49.2.2),
 l4 3 r49.2.1 fun v51 =>
 (a8 (.int .i64) .add (v51 2) (.int .i64 1)).bind fun x53 =>
 some (none,[(v51 0),(v51 1),x53],r49.2.2)]) (
 some (some 0,[],H)):=by kernel_rfl
theorem amw (a0:V) (H:VH):cv Y1 [a0] H =
 (o6 agh [a0,(.sl true []),(.int .i64 1)] H).bind fun r55 =>
 A2 r55.1 [
 l4 0 r55.2.1 fun v56 =>
 some ((.w5 [(.str []),(.int .i64 0),(.bool false)]),r55.2.2),
 l4 3 r55.2.1 fun v60 =>
 some ((.w5 [(v60 0),(v60 1),(v60 2)]),r55.2.2)]:=(j7 vb _ _ _ rfl).trans (by kernel_rfl)
theorem aj4 (a0 a1:V) (H:VH):cv S7 [a0,a1] H =
 (qc J1 [(j8 H a0),(j8 H (.int .u8 64))]).bind fun x3 =>
 (a8 (.int .i64) .lss x3 (.int .i64 0)).bind fun x6 =>
 j9 x6 (
 some ((.w5 [(.agg [(.str []),(.str []),(.str [])]),(.bool false)]),H)) (
 (y7 (strip a0) none (some (strip x3))).bind fun x13 =>
 (a8 (.int .i64) .add (strip (strip x3)) (.int .i64 1)).bind fun x16 =>
 (y7 (strip (strip a0)) (some x16) none).bind fun x17 =>
 (qc W0 [(j8 H x17)]).bind fun x18 =>
 (B4 a1).bind fun y20 =>
 (B4 x13).bind fun y21 =>
 (B4 x18).bind fun y22 =>
 (stO (.ptr H.length 0) [y20,y21,y22] (H++[[(.str []),(.str []),(.str [])]])).bind fun H25 =>
 (G7 C4 false true 3 (.ptr H.length 0) H25).bind fun r27 =>
 (qc M4 [(j8 r27.2 r27.1)]).bind fun x28 =>
 (G9 .not x28).bind fun x29 =>
 j9 x29 (
 some ((.w5 [(.agg [(.str []),(.str []),(.str [])]),(.bool false)]),r27.2)) (
 (G7 C4 false true 3 (.ptr H.length 0) r27.2).bind fun r34 =>
 (F8 3 r34.1).bind fun c36 =>
 some ((.w5 [(.agg [(c36.getD 0 .b7),(c36.getD 1 .b7),(c36.getD 2 .b7)]),(.bool true)]),r34.2))):=(j7 vb _ _ _ rfl).trans (by kernel_rfl)
noncomputable def adO:List V->VH->Option (Option Nat × List V × VH):=C0 (vb.ctx cv o6) (vb.b.I0 45) (vb.C3 45) ⟨⟨[3,8,9,10],[],[]⟩,[(.exit 0,⟨[3],[],[]⟩)]⟩ (B9 Tryz.f45 3)
theorem agM (v0 v1 v2 v3:V) (H:VH):adO [v0,v1,v2,v3] H =
 (a8 (.int .i64) .lss v3 v2).bind fun x7 =>
 j9 x7 (
 (E1 1 v1 (strip v3)).bind fun x9 =>
 (G7 C4 false false 1 x9 H).bind fun r11 =>
 (a8 (.int .u8) .geq r11.1 (.int .u8 65)).bind fun x15 =>
 l7 x15 (
 (a8 (.int .u8) .leq (strip r11.1) (.int .u8 90)).bind fun x18 =>
 j9 x18 (
 (E1 1 (strip v0) v3).bind fun x22 =>
 (G7 C4 false false 1 x22 r11.2).bind fun r24 =>
 (a8 (.int .u8) .add r24.1 (.int .u8 32)).bind fun x25 =>
 (E1 1 (strip v0) v3).bind fun x26 =>
 (B4 x25).bind fun y28 =>
 (stO x26 [y28] r24.2).bind fun H29 =>
 (a8 (.int .i64) .add (strip v3) (.int .i64 1)).bind fun x30 =>
 some (none,[v0,v1,v2,x30],H29)) (
 (a8 (.int .i64) .add (strip v3) (.int .i64 1)).bind fun x32 =>
 some (none,[v0,v1,v2,x32],r11.2))) (
 (a8 (.int .i64) .add (strip v3) (.int .i64 1)).bind fun x35 =>
 some (none,[v0,v1,v2,x35],r11.2))) (
 some (some 0,[v0],H)):=by kernel_rfl
theorem ai9 (a0:V) (H:VH):cv W0 [a0] H =
 (arX a0).bind fun x2 =>
 (D2 (.A0 H.length 0 x2.length 1)).bind fun x5 =>
 (o6 adO [(.A0 H.length 0 x2.length 1),(.A0 H.length 0 x2.length 1),x5,(.int .i64 0)] (H++[x2])).bind fun r37 =>
 A2 r37.1 [
 l4 1 r37.2.1 fun v38 =>
 (abm (strip (v38 0)) r37.2.2).bind fun x40 =>
 some (x40,r37.2.2)]:=(j7 vb _ _ _ rfl).trans (by kernel_rfl)
noncomputable def aaN:List V->VH->Option (Option Nat × List V × VH):=C0 (vb.ctx cv o6) (vb.b.I0 46) (vb.C3 46) ⟨⟨[0,4,5,10],[],[]⟩,[(.exit 3,⟨[0,4,5,10],[],[]⟩)]⟩ (B9 Tryz.f46 7)
noncomputable def adF:List V->VH->Option (Option Nat × List V × VH):=C0 (vb.ctx cv o6) (vb.b.I0 46) (vb.C3 46) ⟨⟨[0,4,5,6],[],[]⟩,[(.exit 0,⟨[4],[],[]⟩),(.ret,⟨[2,3],[],[]⟩)]⟩ (B9 Tryz.f46 5)
theorem af2 (v0 v1 v2 v3:V) (H:VH):aaN [v0,v1,v2,v3] H =
 (id (
 (p8 v0).bind fun x65 =>
 (a8 (.int .i64) .lss v3 x65).bind fun x66 =>
 l7 x66 (
 (o7 (strip v0) (strip v3)).bind fun x70 =>
 (qc P4 [(j8 H x70)]).bind fun x71 =>
 j9 x71 (
 some (0,[(strip (strip v0)),v1,v2,(strip (strip v3))],H)) (
 some (1,[(strip (strip v0)),v1,v2,(strip (strip v3))],H))) (
 some (1,[(strip v0),v1,v2,(strip v3)],H)):Option (Nat × List V × VH))).bind fun r74 =>
 A2 r74.1 [
 l4 4 r74.2.1 fun v75 =>
 (a8 (.int .i64) .add (v75 3) (.int .i64 1)).bind fun x77 =>
 some (none,[(v75 0),(v75 1),(v75 2),x77],r74.2.2),
 l4 4 r74.2.1 fun v79 =>
 some (some 0,[(v79 0),(v79 1),(v79 2),(v79 3)],r74.2.2)]:=by kernel_rfl
theorem afH (v0 v1 v2 v3:V) (H:VH):adF [v0,v1,v2,v3] H =
 (p8 v0).bind fun x13 =>
 (a8 (.int .i64) .lss v2 x13).bind fun x14 =>
 j9 x14 (
 (o7 (strip v0) (strip v2)).bind fun x17 =>
 (a8 (.int .u8) .eql x17 (.int .u8 32)).bind fun x18 =>
 j9 x18 (
 (a8 (.int .i64) .add (strip (strip v2)) (.int .i64 1)).bind fun x21 =>
 some (none,[(strip (strip v0)),v1,x21,(.bool true)],H)) (
 (G9 .not v3).bind fun x25 =>
 j9 x25 (
 some (some 1,[(.sl true []),(.bool false)],H)) (
 (o7 (strip (strip v0)) (strip (strip v2))).bind fun x31 =>
 (a8 (.int .u8) .eql x31 (.int .u8 34)).bind fun x32 =>
 j9 x32 (
 (y7 (strip (strip (strip v0))) (some (strip (strip (strip v2)))) none).bind fun x36 =>
 (qc Y1 [(j8 H x36)]).bind fun x37 =>
 (y5 x37 0).bind fun x39 =>
 (y5 x37 1).bind fun x40 =>
 (y5 x37 2).bind fun x41 =>
 (G9 .not (strip x41)).bind fun x46 =>
 j9 x46 (
 some (some 1,[(.sl true []),(.bool false)],H)) (
 (B4 (strip x39)).bind fun y52 =>
 (Z9 v1).bind fun s54 =>
 (I6 false 1 16 s54 (.sl true [[y52]])).bind fun x53 =>
 (a8 (.int .i64) .add (strip (strip (strip (strip v2)))) (strip x40)).bind fun x57 =>
 some (none,[(strip (strip (strip (strip v0)))),x53,x57,(.bool false)],H))) (
 (o6 aaN [(strip (strip (strip v0))),v1,(strip (strip (strip (strip v2)))),(strip (strip (strip v2)))] H).bind fun r80 =>
 A2 r80.1 [
 l4 4 r80.2.1 fun v81 =>
 (a8 (.int .i64) .eql (v81 3) (v81 2)).bind fun x84 =>
 j9 x84 (
 some (some 1,[(.sl true []),(.bool false)],r80.2.2)) (
 (y7 (v81 0) (some (strip (v81 2))) (some (strip (v81 3)))).bind fun x91 =>
 (B4 x91).bind fun y93 =>
 (Z9 (v81 1)).bind fun s95 =>
 (I6 false 1 16 s95 (.sl true [[y93]])).bind fun x94 =>
 some (none,[(strip (v81 0)),x94,(strip (strip (v81 3))),(.bool false)],r80.2.2))])))) (
 some (some 0,[v1],H)):=by kernel_rfl
theorem ahJ (a0:V) (H:VH):cv U6 [a0] H =
 (qc I8 [(j8 H a0)]).bind fun x3 =>
 (G9 .not x3).bind fun x4 =>
 j9 x4 (
 some ((.w5 [(.sl true []),(.bool false)]),H)) (
 (o6 adF [(strip a0),(.sl true []),(.int .i64 0),(.bool true)] H).bind fun r100 =>
 A2 r100.1 [
 l4 1 r100.2.1 fun v101 =>
 some ((.w5 [(v101 0),(.bool true)]),r100.2.2),
 l4 2 r100.2.1 fun v105 =>
 some ((.w5 [(v105 0),(v105 1)]),r100.2.2)]):=(j7 vb _ _ _ rfl).trans (by kernel_rfl)
theorem agW (a0 a1:V) (H:VH):cv Z4 [a0,a1] H =
 (qc J7 [(j8 H a0),(j8 H a1)]).bind fun x4 =>
 (y5 x4 0).bind fun x5 =>
 (y5 x4 1).bind fun x6 =>
 some ((.w5 [(strip x5),(strip x6)]),H):=(j7 vb _ _ _ rfl).trans (by kernel_rfl)
theorem abz (a0 a1:V) (H:VH):cv J7 [a0,a1] H =
 (qc J4 [(j8 H a0),(j8 H a1)]).bind fun x4 =>
 (G9 .not x4).bind fun x5 =>
 j9 x5 (
 some ((.w5 [(strip a0),(.bool false)]),H)) (
 (p8 (strip (strip a0))).bind fun x11 =>
 (p8 (strip a1)).bind fun x13 =>
 (a8 (.int .i64) .sub x11 x13).bind fun x14 =>
 (y7 (strip a0) none (some x14)).bind fun x15 =>
 some ((.w5 [x15,(.bool true)]),H)):=(j7 vb _ _ _ rfl).trans (by kernel_rfl)
theorem abx (a0 a1:V) (H:VH):cv J4 [a0,a1] H =
 (p8 a0).bind fun x2 =>
 (p8 a1).bind fun x4 =>
 (a8 (.int .i64) .geq x2 x4).bind fun x5 =>
 l7 x5 (
 (p8 (strip (strip a0))).bind fun x9 =>
 (p8 (strip a1)).bind fun x11 =>
 (a8 (.int .i64) .sub x9 x11).bind fun x12 =>
 (y7 (strip a0) (some x12) none).bind fun x13 =>
 (a8 .str .eql x13 (strip (strip a1))).bind fun x15 =>
 some (x15,H)) (
 some ((.bool false),H)):=(j7 vb _ _ _ rfl).trans (by kernel_rfl)
noncomputable def adT:List V->VH->Option (Option Nat × List V × VH):=C0 (vb.ctx cv o6) (vb.b.I0 134) (vb.C3 134) ⟨⟨[4,19,20,21],[],[]⟩,[(.exit 1,⟨[4],[],[]⟩),(.ret,⟨[2,3],[],[]⟩)]⟩ (B9 Tryz.f134 7)
theorem agr (v0 v1 v2 v3:V) (H:VH):adT [v0,v1,v2,v3] H =
 (a8 (.int .i64) .lss v3 v2).bind fun x20 =>
 j9 x20 (
 (E1 1 v1 v3).bind fun x21 =>
 (G7 C4 false false 1 x21 H).bind fun r23 =>
 (pc M5 [(j8 r23.2 r23.1)]).bind fun x26 =>
 (y5 x26 0).bind fun x28 =>
 (y5 x26 1).bind fun x29 =>
 (F8 3 (strip x28)).bind fun c32 =>
 (id (
 (G9 .not (strip x29)).bind fun x35 =>
 l7 x35 (
 some (0,[(.sl true []),(.bool false)],r23.2)) (
 (D2 (strip v0)).bind fun x41 =>
 (a8 (.int .i64) .eql x41 (.int .i64 10)).bind fun x42 =>
 j9 x42 (
 some (0,[(.sl true []),(.bool false)],r23.2)) (
 some (1,[v0,v1,v2,v3,(c32.getD 0 .b7),(c32.getD 1 .b7),(c32.getD 2 .b7)],r23.2))):Option (Nat × List V × VH))).bind fun r46 =>
 A2 r46.1 [
 l4 2 r46.2.1 fun v47 =>
 some (some 1,[(v47 0),(v47 1)],r46.2.2),
 l4 7 r46.2.1 fun v48 =>
 (Z9 (v48 0)).bind fun s53 =>
 (I6 false 3 48 s53 (.sl true [[(strip (v48 4)),(strip (v48 5)),(strip (v48 6))]])).bind fun x52 =>
 (a8 (.int .i64) .add (v48 3) (.int .i64 1)).bind fun x55 =>
 some (none,[x52,(v48 1),(v48 2),x55],r46.2.2)]) (
 some (some 0,[v0],H)):=by kernel_rfl
theorem aiX (a0:V) (H:VH):cv W1 [a0] H =
 (qc I8 [(j8 H a0)]).bind fun x3 =>
 (G9 .not x3).bind fun x4 =>
 j9 x4 (
 some ((.w5 [(.sl true []),(.bool false)]),H)) (
 (qc aaz [(j8 H (strip a0)),(j8 H (.str [32]))]).bind fun x9 =>
 (a8 .str .eql x9 (.str [])).bind fun x10 =>
 j9 x10 (
 some ((.w5 [(.sl true []),(.bool true)]),H)) (
 (pc L8 [(j8 H (strip (strip a0))),(j8 H (.int .u8 44))]).bind fun x17 =>
 (D2 x17).bind fun x18 =>
 (o6 adT [(.sl true []),x17,x18,(.int .i64 0)] H).bind fun r57 =>
 A2 r57.1 [
 l4 1 r57.2.1 fun v58 =>
 some ((.w5 [(v58 0),(.bool true)]),r57.2.2),
 l4 2 r57.2.1 fun v62 =>
 some ((.w5 [(v62 0),(v62 1)]),r57.2.2)])):=(j7 vb _ _ _ rfl).trans (by kernel_rfl)
noncomputable def acu:List V->VH->Option (Option Nat × List V × VH):=C0 (vb.ctx cv o6) (vb.b.I0 42) (vb.C3 42) ⟨⟨[0,1,5],[],[]⟩,[(.ret,⟨[4],[],[]⟩)]⟩ (B9 Tryz.f42 2)
theorem aeX (v0 v1 v2:V) (H:VH):acu [v0,v1,v2] H =
 (qc J1 [(j8 H v0),(j8 H v1)]).bind fun x5 =>
 (a8 (.int .i64) .lss x5 (.int .i64 0)).bind fun x8 =>
 j9 x8 (
 (B4 (strip v0)).bind fun y12 =>
 (Z9 v2).bind fun s14 =>
 (I6 false 1 16 s14 (.sl true [[y12]])).bind fun x13 =>
 some (some 0,[x13],H)) (
 (y7 (strip v0) none (some (strip x5))).bind fun x19 =>
 (B4 x19).bind fun y21 =>
 (Z9 v2).bind fun s23 =>
 (I6 false 1 16 s23 (.sl true [[y21]])).bind fun x22 =>
 (a8 (.int .i64) .add (strip (strip x5)) (.int .i64 1)).bind fun x26 =>
 (y7 (strip (strip v0)) (some x26) none).bind fun x27 =>
 some (none,[x27,(strip v1),x22],H)):=by kernel_rfl
theorem ag3 (a0 a1:V) (H:VH):cv L8 [a0,a1] H =
 (o6 acu [a0,a1,(.sl true [])] H).bind fun r30 =>
 A2 r30.1 [
 l4 1 r30.2.1 fun v31 =>
 some ((v31 0),r30.2.2)]:=(j7 vb _ _ _ rfl).trans (by kernel_rfl)
end Go.Proofs.YtmokcpfbeggigaaGreatDoor.Q
