/- What a call of each function comes to. -/
import Derived.Test.YtpbgpeojlfdpoaaGreatDoorScriptAddressBaseZ
namespace Go.Proofs.YtpbgpeojlfdpoaaGreatDoor.Q
open Go Go.AM Go.Proofs
set_option linter.unusedVariables false
set_option maxRecDepth 100000
theorem aeu (a0:V) (H:VH):cv S5 [a0] H =
 (I1 (strip a0)).bind fun x2 =>
 (a8 (.int .i64) .gtr x2 (.int .i64 1048576)).bind fun x3 =>
 j5 x3 (
 some ((.bool true),H)) (
 (qc K0 [(j7 H a0)]).bind fun x6 =>
 (pc K9 [(j7 H x6)]).bind fun x9 =>
 (p8 x9 0).bind fun x11 =>
 (p8 x9 1).bind fun x12 =>
 (F6 3 (strip x11)).bind fun c15 =>
 (pc P6 [(j7 H (strip x6))]).bind fun x18 =>
 (p8 x18 0).bind fun x20 =>
 (p8 x18 1).bind fun x21 =>
 (F6 3 (strip x20)).bind fun c24 =>
 (id (
 (alg 3 .neq (.agg [(strip (c15.getD 0 .b7)),(strip (c15.getD 1 .b7)),(strip (c15.getD 2 .b7))]) (.agg [(strip (c24.getD 0 .b7)),(strip (c24.getD 1 .b7)),(strip (c24.getD 2 .b7))])).bind fun x28 =>
 l3 x28 (
 some (0,[(.bool false)],H)) (
 (a8 .bool .neq (strip x12) (strip x21)).bind fun x34 =>
 j5 x34 (
 some (0,[(.bool false)],H)) (
 some (1,[(strip (strip x6)),(strip (strip x12)),(c15.getD 0 .b7),(c15.getD 1 .b7),(c15.getD 2 .b7)],H))):Option (Nat × List V × VH))).bind fun r37 =>
 y5 r37.1 [
 j8 1 r37.2.1 fun v38 =>
 some ((v38 0),r37.2.2),
 j8 5 r37.2.1 fun v39 =>
 (D6 .not (v39 1)).bind fun x41 =>
 j5 x41 (
 (a8 .str .add (.str [97,100,100,114,101,115,115,32]) (v39 0)).bind fun x43 =>
 (a8 .str .add x43 (.str [10])).bind fun x44 =>
 (qc G8 [(j7 r37.2.2 x44)]).bind fun x45 =>
 (a8 .str .eql x45 (.str [119,104,97,116,10])).bind fun x46 =>
 some (x46,r37.2.2)) (
 (a8 .str .add (.str [97,100,100,114,101,115,115,32]) (v39 0)).bind fun x49 =>
 (a8 .str .add x49 (.str [10])).bind fun x50 =>
 (qc G8 [(j7 r37.2.2 x50)]).bind fun x51 =>
 (qc J0 [(j7 r37.2.2 (.agg [(strip (v39 2)),(strip (v39 3)),(strip (v39 4))]))]).bind fun x53 =>
 (a8 .str .add (.str [61,32]) x53).bind fun x54 =>
 (a8 .str .add x54 (.str [10])).bind fun x55 =>
 (a8 .str .eql x51 x55).bind fun x56 =>
 some (x56,r37.2.2))]):=(j6 vb _ _ _ rfl).trans (by kernel_rfl)
theorem adX (a0:V) (H:VH):cv K0 [a0] H =
 (cv aaf [a0] H).bind fun r3 =>
 (cv D5 [(strip r3.1),(.int .i64 4)] r3.2).bind fun r7 =>
 (a8 (.int .i64) .eql r7.1 (.int .i64 0)).bind fun x8 =>
 j5 x8 (
 (cv D7 [(strip (strip r3.1)),(.sl false (p5 [[(.str [65,110,110,32,76,101,101,32,60,97,110,110,64,88,46,79,114,103,62])],[(.str [32,97,110,110,64,120,46,111,114,103,32])],[(.str [60,97,46,98,64,99,62])],[(.str [34,65,34,32,66,32,60,98,64,99,62])],[(.str [65,110,110,32,60,62])],[(.str [97,110,110,64,120,46,111,114,103,32,60,98,64,99,62])],[(.str [97,64,98,62])],[(.str [60,97,64,98,62,32,120])]]))] r7.2).bind fun r12 =>
 some (r12.1,r12.2)) (
 (cv acw [(strip (strip (strip r3.1)))] r7.2).bind fun r17 =>
 (qc W6 [(j7 r17.2 r17.1)]).bind fun x18 =>
 (cv acB [(strip (strip r3.1)),(strip x18),(.sl false (p5 [[(.str [])],[(.str [32])],[(.str [60])],[(.str [62])],[(.str [64])],[(.str [34])],[(.str [46])]]))] r17.2).bind fun r21 =>
 some (r21.1,r21.2)):=(j6 vb _ _ _ rfl).trans (by kernel_rfl)
theorem ak2 (a0:V) (H:VH):cv aaf [a0] H =
 (id (
 (I1 (strip a0)).bind fun x2 =>
 (a8 (.int .i64) .gtr x2 (.int .i64 2000)).bind fun x3 =>
 j5 x3 (
 (U1 1 (strip a0) none (some (.int .i64 2000))).bind fun x5 =>
 some (0,[x5],H)) (
 some (0,[a0],H)):Option (Nat × List V × VH))).bind fun r7 =>
 y5 r7.1 [
 j8 1 r7.2.1 fun v8 =>
 (A6 (v8 0)).bind fun y11 =>
 some ((.ptr r7.2.2.length 0),(r7.2.2++[[y11,(.int .i64 0)]]))]:=(j6 vb _ _ _ rfl).trans (by kernel_rfl)
theorem ahn (a0 a1:V) (H:VH):cv D5 [a0,a1] H =
 (P3 (strip a0)).bind fun x3 =>
 (N8 x3 1).bind fun x4 =>
 (H5 C5 false false 1 x4 H).bind fun r6 =>
 (a8 (.int .i64) .add r6.1 (.int .i64 1)).bind fun x7 =>
 (P3 a0).bind fun x8 =>
 (N8 x8 1).bind fun x9 =>
 (A6 x7).bind fun y11 =>
 (stO x9 [y11] r6.2).bind fun H12 =>
 (id (
 (a8 (.int .i64) .lss a1 (.int .i64 1)).bind fun x14 =>
 l3 x14 (
 some (0,[(.int .i64 0)],H12)) (
 (P3 (strip (strip a0))).bind fun x19 =>
 (N8 x19 0).bind fun x20 =>
 (H5 C5 false false 1 x20 H12).bind fun r22 =>
 (I1 r22.1).bind fun x23 =>
 (a8 (.int .i64) .eql x23 (.int .i64 0)).bind fun x24 =>
 j5 x24 (
 some (0,[(.int .i64 0)],r22.2)) (
 some (1,[(strip (strip (strip a0))),(strip a1)],r22.2))):Option (Nat × List V × VH))).bind fun r27 =>
 y5 r27.1 [
 j8 1 r27.2.1 fun v28 =>
 some ((v28 0),r27.2.2),
 j8 2 r27.2.1 fun v29 =>
 (P3 (v29 0)).bind fun x31 =>
 (N8 x31 1).bind fun x32 =>
 (H5 C5 false false 1 x32 r27.2.2).bind fun r34 =>
 (a8 (.int .i64) .sub r34.1 (.int .i64 1)).bind fun x35 =>
 (P3 (strip (v29 0))).bind fun x39 =>
 (N8 x39 0).bind fun x40 =>
 (H5 C5 false false 1 x40 r34.2).bind fun r42 =>
 (I1 r42.1).bind fun x43 =>
 (a8 (.int .i64) .lss x35 x43).bind fun x44 =>
 j5 x44 (
 (P3 (strip (strip (v29 0)))).bind fun x46 =>
 (N8 x46 0).bind fun x47 =>
 (H5 C5 false false 1 x47 r42.2).bind fun r49 =>
 (G5 1 r49.1 (strip x35)).bind fun x51 =>
 (H5 C5 false false 1 x51 r49.2).bind fun r53 =>
 (ac6 .i64 r53.1).bind fun x54 =>
 (a8 (.int .i64) .rem x54 (v29 1)).bind fun x56 =>
 some (x56,r53.2)) (
 (P3 (strip (strip (v29 0)))).bind fun x59 =>
 (N8 x59 0).bind fun x60 =>
 (H5 C5 false false 1 x60 r42.2).bind fun r62 =>
 (P3 (strip (strip (strip (v29 0))))).bind fun x65 =>
 (N8 x65 0).bind fun x66 =>
 (H5 C5 false false 1 x66 r62.2).bind fun r68 =>
 (I1 r68.1).bind fun x69 =>
 (a8 (.int .i64) .rem (strip x35) x69).bind fun x70 =>
 (G5 1 r62.1 x70).bind fun x71 =>
 (H5 C5 false false 1 x71 r68.2).bind fun r73 =>
 (ac6 .i64 r73.1).bind fun x74 =>
 (a8 (.int .i64) .mul x74 (.int .i64 131)).bind fun x75 =>
 (P3 (strip (strip (strip (strip (v29 0)))))).bind fun x77 =>
 (N8 x77 0).bind fun x78 =>
 (H5 C5 false false 1 x78 r73.2).bind fun r80 =>
 (a8 (.int .i64) .mul (strip (strip x35)) (.int .i64 7)).bind fun x82 =>
 (a8 (.int .i64) .add x82 (.int .i64 3)).bind fun x83 =>
 (P3 (strip (strip (strip (strip (strip (v29 0))))))).bind fun x85 =>
 (N8 x85 0).bind fun x86 =>
 (H5 C5 false false 1 x86 r80.2).bind fun r88 =>
 (I1 r88.1).bind fun x89 =>
 (a8 (.int .i64) .rem x83 x89).bind fun x90 =>
 (G5 1 r80.1 x90).bind fun x91 =>
 (H5 C5 false false 1 x91 r88.2).bind fun r93 =>
 (ac6 .i64 r93.1).bind fun x94 =>
 (a8 (.int .i64) .mul x94 (.int .i64 1117)).bind fun x95 =>
 (a8 (.int .i64) .add x75 x95).bind fun x96 =>
 (a8 (.int .i64) .mul (strip (strip (strip x35))) (.int .i64 29)).bind fun x98 =>
 (a8 (.int .i64) .add x96 x98).bind fun x99 =>
 (P3 (strip (strip (strip (strip (strip (strip (v29 0)))))))).bind fun x102 =>
 (N8 x102 0).bind fun x103 =>
 (H5 C5 false false 1 x103 r93.2).bind fun r105 =>
 (I1 r105.1).bind fun x106 =>
 (a8 (.int .i64) .quo (strip (strip (strip (strip x35)))) x106).bind fun x107 =>
 (a8 (.int .i64) .mul x107 (.int .i64 53)).bind fun x108 =>
 (a8 (.int .i64) .add x99 x108).bind fun x109 =>
 (a8 (.int .i64) .quo (strip x109) (.int .i64 64)).bind fun x113 =>
 (a8 (.int .i64) .xor x109 x113).bind fun x114 =>
 (a8 (.int .i64) .rem x114 (v29 1)).bind fun x118 =>
 some (x118,r105.2))]:=(j6 vb _ _ _ rfl).trans (by kernel_rfl)
theorem aj8 (a0 a1:V) (H:VH):cv D7 [a0,a1] H =
 (I1 (strip a1)).bind fun x4 =>
 (cv D5 [(strip a0),(strip x4)] H).bind fun r6 =>
 (G5 1 (strip a1) r6.1).bind fun x7 =>
 (H5 C5 false false 1 x7 r6.2).bind fun r9 =>
 some (r9.1,r9.2):=(j6 vb _ _ _ rfl).trans (by kernel_rfl)
theorem al0 (a0:V) (H:VH):cv acw [a0] H =
 (cv D7 [(strip a0),(.sl false (p5 [[(.str [])],[(.str [65,110,110])],[(.str [65,110,110,32,76,101,101])],[(.str [])],[(.str [97,34,98])],[(.str [120,44,32,121])],[(.str [60,122,62])],[(.str [64])]]))] H).bind fun r4 =>
 (cv D7 [(strip (strip a0)),(.sl false (p5 [[(.str [97,110,110])],[(.str [97,46,98])],[(.str [98,111,98])],[(.str [120,43,121])],[(.str [111,39,110,101,105,108])],[(.str [65])]]))] r4.2).bind fun r8 =>
 (cv D7 [(strip (strip (strip a0))),(.sl false (p5 [[(.str [120,46,111,114,103])],[(.str [109,97,105,108,46,101,120,97,109,112,108,101])],[(.str [97,45,98,46,99])],[(.str [120,46,111,114,103])],[(.str [57,46,100,101])]]))] r8.2).bind fun r12 =>
 (A6 r4.1).bind fun y14 =>
 (A6 r8.1).bind fun y15 =>
 (A6 r12.1).bind fun y16 =>
 some ((.agg [y14,y15,y16]),r12.2):=(j6 vb _ _ _ rfl).trans (by kernel_rfl)
theorem afL (a0:V) (H:VH):cv W6 [a0] H =
 (F6 3 a0).bind fun c1 =>
 (qc J7 [(j7 H (.agg [(strip (c1.getD 0 .b7)),(strip (c1.getD 1 .b7)),(strip (c1.getD 2 .b7))]))]).bind fun x4 =>
 (D6 .not x4).bind fun x5 =>
 j5 x5 (
 some ((.str []),H)) (
 (a8 .str .add (strip (c1.getD 1 .b7)) (.str [64])).bind fun x9 =>
 (a8 .str .add x9 (strip (c1.getD 2 .b7))).bind fun x12 =>
 (a8 .str .eql (strip (c1.getD 0 .b7)) (.str [])).bind fun x16 =>
 j5 x16 (
 some (x12,H)) (
 (qc aa1 [(j7 H (strip (c1.getD 0 .b7)))]).bind fun x21 =>
 (a8 .str .add x21 (.str [32,60])).bind fun x22 =>
 (a8 .str .add x22 x12).bind fun x24 =>
 (a8 .str .add x24 (.str [62])).bind fun x25 =>
 some (x25,H))):=(j6 vb _ _ _ rfl).trans (by kernel_rfl)
theorem af2 (a0:V) (H:VH):cv J7 [a0] H =
 (F6 3 a0).bind fun c1 =>
 (qc acp [(j7 H (strip (c1.getD 0 .b7)))]).bind fun x5 =>
 l3 x5 (
 (o6 (strip (c1.getD 1 .b7))).bind fun x9 =>
 (a8 (.int .i64) .leq x9 (.int .i64 30)).bind fun x10 =>
 l3 x10 (
 (qc abU [(j7 H (strip (c1.getD 1 .b7)))]).bind fun x15 =>
 l3 x15 (
 (o6 (strip (c1.getD 2 .b7))).bind fun x20 =>
 (a8 (.int .i64) .leq x20 (.int .i64 40)).bind fun x21 =>
 l3 x21 (
 (qc abr [(j7 H (strip (c1.getD 2 .b7)))]).bind fun x26 =>
 some (x26,H)) (
 some ((.bool false),H))) (
 some ((.bool false),H))) (
 some ((.bool false),H))) (
 some ((.bool false),H)):=(j6 vb _ _ _ rfl).trans (by kernel_rfl)
theorem alW (a0:V) (H:VH):cv acp [a0] H =
 (qc O8 [(j7 H a0)]).bind fun x2 =>
 l3 x2 (
 (o6 (strip a0)).bind fun x5 =>
 (a8 (.int .i64) .leq x5 (.int .i64 40)).bind fun x6 =>
 some (x6,H)) (
 some ((.bool false),H)):=(j6 vb _ _ _ rfl).trans (by kernel_rfl)
noncomputable def V2:List V->VH->Option (Option Nat × List V × VH):=A3 (vb.ctx cv n7) (vb.b.E9 77) (vb.A7 77) ⟨⟨[0,3],[],[]⟩,[(.exit 0,⟨[0],[],[]⟩),(.ret,⟨[2],[],[]⟩)]⟩ (A2 Tryz.f77 2)
theorem abK (v0 v1:V) (H:VH):V2 [v0,v1] H =
 (id (
 (o6 v0).bind fun x4 =>
 (a8 (.int .i64) .lss v1 x4).bind fun x5 =>
 l3 x5 (
 (a8 (.int .i64) .leq (strip v1) (.int .i64 200)).bind fun x8 =>
 j5 x8 (
 some (0,[(strip v0),(strip (strip v1))],H)) (
 some (1,[(strip v0)],H))) (
 some (1,[(strip v0)],H)):Option (Nat × List V × VH))).bind fun r11 =>
 y5 r11.1 [
 j8 2 r11.2.1 fun v12 =>
 (id (
 (l4 (v12 0) (v12 1)).bind fun x15 =>
 (a8 (.int .u8) .lss x15 (.int .u8 32)).bind fun x16 =>
 l3 x16 (
 some (0,[(.bool false)],r11.2.2)) (
 (l4 (strip (v12 0)) (strip (v12 1))).bind fun x22 =>
 (a8 (.int .u8) .gtr x22 (.int .u8 126)).bind fun x23 =>
 j5 x23 (
 some (0,[(.bool false)],r11.2.2)) (
 some (1,[(strip (strip (v12 0))),(strip (strip (v12 1)))],r11.2.2))):Option (Nat × List V × VH))).bind fun r26 =>
 y5 r26.1 [
 j8 1 r26.2.1 fun v27 =>
 some (some 1,[(v27 0)],r26.2.2),
 j8 2 r26.2.1 fun v28 =>
 (a8 (.int .i64) .add (v28 1) (.int .i64 1)).bind fun x30 =>
 some (none,[(v28 0),x30],r26.2.2)],
 j8 1 r11.2.1 fun v32 =>
 some (some 0,[(v32 0)],r11.2.2)]:=by kernel_rfl
theorem aiz (a0:V) (H:VH):cv O8 [a0] H =
 (n7 V2 [a0,(.int .i64 0)] H).bind fun r33 =>
 y5 r33.1 [
 j8 1 r33.2.1 fun v34 =>
 (o6 (v34 0)).bind fun x36 =>
 (a8 (.int .i64) .leq x36 (.int .i64 200)).bind fun x37 =>
 some (x37,r33.2.2),
 j8 1 r33.2.1 fun v39 =>
 some ((v39 0),r33.2.2)]:=(j6 vb _ _ _ rfl).trans (by kernel_rfl)
noncomputable def K8:List V->VH->Option (Option Nat × List V × VH):=A3 (vb.ctx cv n7) (vb.b.E9 139) (vb.A7 139) ⟨⟨[0,3,4],[],[]⟩,[(.exit 0,⟨[0],[],[]⟩),(.ret,⟨[2],[],[]⟩)]⟩ (A2 Tryz.f139 3)
theorem acV (v0 v1 v2:V) (H:VH):K8 [v0,v1,v2] H =
 (I1 (strip v1)).bind fun x7 =>
 (a8 (.int .i64) .lss v2 x7).bind fun x8 =>
 j5 x8 (
 (G5 1 (strip v1) (strip v2)).bind fun x11 =>
 (H5 C5 false false 1 x11 H).bind fun r13 =>
 (qc V6 [(j7 r13.2 r13.1)]).bind fun x14 =>
 (D6 .not x14).bind fun x15 =>
 j5 x15 (
 some (some 1,[(.bool false)],r13.2)) (
 (a8 (.int .i64) .add (strip (strip v2)) (.int .i64 1)).bind fun x18 =>
 some (none,[v0,v1,x18],r13.2))) (
 some (some 0,[v0],H)):=by kernel_rfl
theorem akP (a0:V) (H:VH):cv abU [a0] H =
 (pc J9 [(j7 H a0),(j7 H (.int .u8 46))]).bind fun x2 =>
 (n7 K8 [(strip a0),(strip x2),(.int .i64 0)] H).bind fun r20 =>
 y5 r20.1 [
 j8 1 r20.2.1 fun v21 =>
 (o6 (v21 0)).bind fun x23 =>
 (a8 (.int .i64) .leq x23 (.int .i64 30)).bind fun x24 =>
 some (x24,r20.2.2),
 j8 1 r20.2.1 fun v26 =>
 some ((v26 0),r20.2.2)]:=(j6 vb _ _ _ rfl).trans (by kernel_rfl)
noncomputable def aeA:List V->VH->Option (Option Nat × List V × VH):=A3 (vb.ctx cv n7) (vb.b.E9 95) (vb.A7 95) ⟨⟨[0,1,5,6,7],[],[]⟩,[(.exit 0,⟨[0,5,6],[],[]⟩)]⟩ (A2 Tryz.f95 4)
theorem ahP (v0 v1 v2 v3 v4:V) (H:VH):aeA [v0,v1,v2,v3,v4] H =
 (o6 v0).bind fun x7 =>
 (a8 (.int .i64) .lss v4 x7).bind fun x8 =>
 j5 x8 (
 (id (
 (l4 (strip v0) (strip v4)).bind fun x11 =>
 (a8 (.int .u8) .eql x11 v1).bind fun x13 =>
 j5 x13 (
 (w4 (strip (strip v0)) (some v3) (some (strip (strip v4)))).bind fun x18 =>
 (A6 x18).bind fun y20 =>
 (abC v2).bind fun s22 =>
 (L7 false 1 16 s22 (.sl true [[y20]])).bind fun x21 =>
 (a8 (.int .i64) .add (strip (strip (strip v4))) (.int .i64 1)).bind fun x25 =>
 some (0,[(strip (strip (strip v0))),(strip v1),x21,x25,(strip (strip (strip (strip v4))))],H)) (
 some (0,[(strip (strip v0)),(strip v1),v2,v3,(strip (strip v4))],H)):Option (Nat × List V × VH))).bind fun r27 =>
 y5 r27.1 [
 j8 5 r27.2.1 fun v28 =>
 (a8 (.int .i64) .add (v28 4) (.int .i64 1)).bind fun x30 =>
 some (none,[(v28 0),(v28 1),(v28 2),(v28 3),x30],r27.2.2)]) (
 some (some 0,[(strip v0),v2,v3],H)):=by kernel_rfl
theorem akN (a0 a1:V) (H:VH):cv J9 [a0,a1] H =
 (n7 aeA [a0,a1,(.sl true []),(.int .i64 0),(.int .i64 0)] H).bind fun r32 =>
 y5 r32.1 [
 j8 3 r32.2.1 fun v33 =>
 (w4 (v33 0) (some (v33 2)) none).bind fun x37 =>
 (A6 x37).bind fun y39 =>
 (abC (v33 1)).bind fun s41 =>
 (L7 false 1 16 s41 (.sl true [[y39]])).bind fun x40 =>
 some (x40,r32.2.2)]:=(j6 vb _ _ _ rfl).trans (by kernel_rfl)
noncomputable def V4:List V->VH->Option (Option Nat × List V × VH):=A3 (vb.ctx cv n7) (vb.b.E9 202) (vb.A7 202) ⟨⟨[0,3],[],[]⟩,[(.exit 0,⟨[0],[],[]⟩),(.ret,⟨[2],[],[]⟩)]⟩ (A2 Tryz.f202 2)
theorem ab0 (v0 v1:V) (H:VH):V4 [v0,v1] H =
 (id (
 (o6 v0).bind fun x4 =>
 (a8 (.int .i64) .lss v1 x4).bind fun x5 =>
 l3 x5 (
 (a8 (.int .i64) .leq (strip v1) (.int .i64 40)).bind fun x8 =>
 j5 x8 (
 some (0,[(strip v0),(strip (strip v1))],H)) (
 some (1,[(strip v0)],H))) (
 some (1,[(strip v0)],H)):Option (Nat × List V × VH))).bind fun r11 =>
 y5 r11.1 [
 j8 2 r11.2.1 fun v12 =>
 (l4 (v12 0) (v12 1)).bind fun x15 =>
 (qc aaU [(j7 r11.2.2 x15)]).bind fun x16 =>
 (D6 .not x16).bind fun x17 =>
 j5 x17 (
 some (some 1,[(.bool false)],r11.2.2)) (
 (a8 (.int .i64) .add (strip (v12 1)) (.int .i64 1)).bind fun x20 =>
 some (none,[(strip (v12 0)),x20],r11.2.2)),
 j8 1 r11.2.1 fun v22 =>
 some (some 0,[(v22 0)],r11.2.2)]:=by kernel_rfl
theorem aiK (a0:V) (H:VH):cv V6 [a0] H =
 (n7 V4 [a0,(.int .i64 0)] H).bind fun r23 =>
 y5 r23.1 [
 j8 1 r23.2.1 fun v24 =>
 (o6 (v24 0)).bind fun x26 =>
 (a8 (.int .i64) .geq x26 (.int .i64 1)).bind fun x27 =>
 l3 x27 (
 (o6 (strip (v24 0))).bind fun x30 =>
 (a8 (.int .i64) .leq x30 (.int .i64 40)).bind fun x31 =>
 some (x31,r23.2.2)) (
 some ((.bool false),r23.2.2)),
 j8 1 r23.2.1 fun v36 =>
 some ((v36 0),r23.2.2)]:=(j6 vb _ _ _ rfl).trans (by kernel_rfl)
noncomputable def aaS:List V->VH->Option (Option Nat × List V × VH):=A3 (vb.ctx cv n7) (vb.b.E9 152) (vb.A7 152) ⟨⟨[0,3],[],[]⟩,[(.exit 0,⟨[0],[],[]⟩),(.ret,⟨[2],[],[]⟩)]⟩ (A2 Tryz.f152 2)
theorem adu (v0 v1:V) (H:VH):aaS [v0,v1] H =
 (a8 (.int .i64) .lss v1 (.int .i64 19)).bind fun x3 =>
 j5 x3 (
 (l4 (.str [33,35,36,37,38,39,42,43,45,47,61,63,94,95,96,123,124,125,126]) (strip v1)).bind fun x6 =>
 (a8 (.int .u8) .eql v0 x6).bind fun x7 =>
 j5 x7 (
 some (some 1,[(.bool true)],H)) (
 (a8 (.int .i64) .add (strip (strip v1)) (.int .i64 1)).bind fun x10 =>
 some (none,[(strip v0),x10],H))) (
 some (some 0,[v0],H)):=by kernel_rfl
theorem al4 (a0:V) (H:VH):cv aaU [a0] H =
 (n7 aaS [a0,(.int .i64 0)] H).bind fun r12 =>
 y5 r12.1 [
 j8 1 r12.2.1 fun v13 =>
 (qc X9 [(j7 r12.2.2 (v13 0))]).bind fun x15 =>
 some (x15,r12.2.2),
 j8 1 r12.2.1 fun v17 =>
 some ((v17 0),r12.2.2)]:=(j6 vb _ _ _ rfl).trans (by kernel_rfl)
theorem ajn (a0:V) (H:VH):cv X9 [a0] H =
 (a8 (.int .u8) .geq a0 (.int .u8 97)).bind fun x2 =>
 l3 x2 (
 (a8 (.int .u8) .leq (strip a0) (.int .u8 122)).bind fun x5 =>
 l3 x5 (
 some ((.bool true),H)) (
 (a8 (.int .u8) .geq (strip (strip a0)) (.int .u8 65)).bind fun x13 =>
 l3 x13 (
 (a8 (.int .u8) .leq (strip (strip (strip a0))) (.int .u8 90)).bind fun x16 =>
 l3 x16 (
 some ((.bool true),H)) (
 (a8 (.int .u8) .geq (strip (strip (strip (strip a0)))) (.int .u8 48)).bind fun x23 =>
 l3 x23 (
 (a8 (.int .u8) .leq (strip (strip (strip (strip (strip a0))))) (.int .u8 57)).bind fun x26 =>
 some (x26,H)) (
 some ((.bool false),H)))) (
 (a8 (.int .u8) .geq (strip (strip (strip a0))) (.int .u8 48)).bind fun x37 =>
 l3 x37 (
 (a8 (.int .u8) .leq (strip (strip (strip (strip a0)))) (.int .u8 57)).bind fun x40 =>
 some (x40,H)) (
 some ((.bool false),H))))) (
 (a8 (.int .u8) .geq (strip a0) (.int .u8 65)).bind fun x50 =>
 l3 x50 (
 (a8 (.int .u8) .leq (strip (strip a0)) (.int .u8 90)).bind fun x53 =>
 l3 x53 (
 some ((.bool true),H)) (
 (a8 (.int .u8) .geq (strip (strip (strip a0))) (.int .u8 48)).bind fun x60 =>
 l3 x60 (
 (a8 (.int .u8) .leq (strip (strip (strip (strip a0)))) (.int .u8 57)).bind fun x63 =>
 some (x63,H)) (
 some ((.bool false),H)))) (
 (a8 (.int .u8) .geq (strip (strip a0)) (.int .u8 48)).bind fun x74 =>
 l3 x74 (
 (a8 (.int .u8) .leq (strip (strip (strip a0))) (.int .u8 57)).bind fun x77 =>
 some (x77,H)) (
 some ((.bool false),H)))):=(j6 vb _ _ _ rfl).trans (by kernel_rfl)
noncomputable def Y2:List V->VH->Option (Option Nat × List V × VH):=A3 (vb.ctx cv n7) (vb.b.E9 34) (vb.A7 34) ⟨⟨[0,3,4,5,6],[],[]⟩,[(.exit 2,⟨[0,3,4],[],[]⟩),(.ret,⟨[2],[],[]⟩)]⟩ (A2 Tryz.f34 9)
noncomputable def I6:List V->VH->Option (Option Nat × List V × VH):=A3 (vb.ctx cv n7) (vb.b.E9 34) (vb.A7 34) ⟨⟨[0,3,4],[],[]⟩,[(.exit 0,⟨[0],[],[]⟩),(.ret,⟨[2],[],[]⟩)]⟩ (A2 Tryz.f34 3)
theorem ach (v0 v1 v2 v3 v4:V) (H:VH):Y2 [v0,v1,v2,v3,v4] H =
 (o6 v3).bind fun x43 =>
 (a8 (.int .i64) .lss v4 x43).bind fun x44 =>
 j5 x44 (
 (id (
 (l4 (strip v3) (strip v4)).bind fun x47 =>
 (qc X9 [(j7 H x47)]).bind fun x48 =>
 (D6 .not x48).bind fun x49 =>
 l3 x49 (
 (l4 (strip (strip v3)) (strip (strip v4))).bind fun x53 =>
 (a8 (.int .u8) .neq x53 (.int .u8 45)).bind fun x54 =>
 l3 x54 (
 some (0,[(.bool false)],H)) (
 (l4 (strip (strip (strip v3))) (strip (strip (strip v4)))).bind fun x61 =>
 (a8 (.int .u8) .geq x61 (.int .u8 65)).bind fun x62 =>
 l3 x62 (
 (l4 (strip (strip (strip (strip v3)))) (strip (strip (strip (strip v4))))).bind fun x66 =>
 (a8 (.int .u8) .leq x66 (.int .u8 90)).bind fun x67 =>
 j5 x67 (
 some (0,[(.bool false)],H)) (
 some (1,[v0,v1,v2,(strip (strip (strip (strip (strip v3))))),(strip (strip (strip (strip (strip v4)))))],H))) (
 some (1,[v0,v1,v2,(strip (strip (strip (strip v3)))),(strip (strip (strip (strip v4))))],H)))) (
 (l4 (strip (strip v3)) (strip (strip v4))).bind fun x77 =>
 (a8 (.int .u8) .geq x77 (.int .u8 65)).bind fun x78 =>
 l3 x78 (
 (l4 (strip (strip (strip v3))) (strip (strip (strip v4)))).bind fun x82 =>
 (a8 (.int .u8) .leq x82 (.int .u8 90)).bind fun x83 =>
 j5 x83 (
 some (0,[(.bool false)],H)) (
 some (1,[v0,v1,v2,(strip (strip (strip (strip v3)))),(strip (strip (strip (strip v4))))],H))) (
 some (1,[v0,v1,v2,(strip (strip (strip v3))),(strip (strip (strip v4)))],H))):Option (Nat × List V × VH))).bind fun r89 =>
 y5 r89.1 [
 j8 1 r89.2.1 fun v90 =>
 some (some 1,[(v90 0)],r89.2.2),
 j8 5 r89.2.1 fun v91 =>
 (a8 (.int .i64) .add (v91 4) (.int .i64 1)).bind fun x93 =>
 some (none,[(v91 0),(v91 1),(v91 2),(v91 3),x93],r89.2.2)]) (
 some (some 0,[v0,v1,v2],H)):=by kernel_rfl
theorem ace (v0 v1 v2:V) (H:VH):I6 [v0,v1,v2] H =
 (I1 (strip v1)).bind fun x7 =>
 (a8 (.int .i64) .lss v2 x7).bind fun x8 =>
 j5 x8 (
 (id (
 (G5 1 (strip v1) (strip v2)).bind fun x11 =>
 (H5 C5 false false 1 x11 H).bind fun r13 =>
 (id (
 (a8 .str .eql r13.1 (.str [])).bind fun x16 =>
 l3 x16 (
 some (0,[(.bool false)],r13.2)) (
 (l4 (strip r13.1) (.int .i64 0)).bind fun x23 =>
 (a8 (.int .u8) .eql x23 (.int .u8 45)).bind fun x24 =>
 l3 x24 (
 some (0,[(.bool false)],r13.2)) (
 (o6 (strip (strip (strip r13.1)))).bind fun x31 =>
 (a8 (.int .i64) .sub x31 (.int .i64 1)).bind fun x32 =>
 (l4 (strip (strip r13.1)) x32).bind fun x33 =>
 (a8 (.int .u8) .eql x33 (.int .u8 45)).bind fun x34 =>
 j5 x34 (
 some (0,[(.bool false)],r13.2)) (
 some (1,[v0,v1,(strip (strip v2)),(strip (strip (strip (strip r13.1))))],r13.2)))):Option (Nat × List V × VH))).bind fun r37 =>
 y5 r37.1 [
 j8 1 r37.2.1 fun v38 =>
 some (0,[(v38 0)],r37.2.2),
 j8 4 r37.2.1 fun v39 =>
 (n7 Y2 [(v39 0),(v39 1),(v39 2),(v39 3),(.int .i64 0)] r37.2.2).bind fun r95 =>
 y5 r95.1 [
 j8 3 r95.2.1 fun v96 =>
 some (1,[(v96 0),(v96 1),(v96 2)],r95.2.2),
 j8 1 r95.2.1 fun v97 =>
 some (0,[(v97 0)],r95.2.2)]]:Option (Nat × List V × VH))).bind fun r98 =>
 y5 r98.1 [
 j8 1 r98.2.1 fun v99 =>
 some (some 1,[(v99 0)],r98.2.2),
 j8 3 r98.2.1 fun v100 =>
 (a8 (.int .i64) .add (v100 2) (.int .i64 1)).bind fun x102 =>
 some (none,[(v100 0),(v100 1),x102],r98.2.2)]) (
 some (some 0,[v0],H)):=by kernel_rfl
theorem ajG (a0:V) (H:VH):cv abr [a0] H =
 (pc J9 [(j7 H a0),(j7 H (.int .u8 46))]).bind fun x2 =>
 (n7 I6 [(strip a0),(strip x2),(.int .i64 0)] H).bind fun r104 =>
 y5 r104.1 [
 j8 1 r104.2.1 fun v105 =>
 (o6 (v105 0)).bind fun x107 =>
 (a8 (.int .i64) .leq x107 (.int .i64 40)).bind fun x108 =>
 some (x108,r104.2.2),
 j8 1 r104.2.1 fun v110 =>
 some ((v110 0),r104.2.2)]:=(j6 vb _ _ _ rfl).trans (by kernel_rfl)
theorem aiG (a0:V) (H:VH):cv aa1 [a0] H =
 (qc O8 [(j7 H a0)]).bind fun x2 =>
 (D6 .not x2).bind fun x3 =>
 j5 x3 (
 some ((.str []),H)) (
 (qc V6 [(j7 H (strip a0))]).bind fun x6 =>
 j5 x6 (
 some ((strip (strip a0)),H)) (
 (qc aac [(j7 H (strip (strip a0)))]).bind fun x10 =>
 some (x10,H))):=(j6 vb _ _ _ rfl).trans (by kernel_rfl)
noncomputable def aeU:List V->VH->Option (Option Nat × List V × VH):=A3 (vb.ctx cv n7) (vb.b.E9 203) (vb.A7 203) ⟨⟨[0,3,4],[],[]⟩,[(.exit 0,⟨[3],[],[]⟩)]⟩ (A2 Tryz.f203 3)
theorem ahF (v0 v1 v2:V) (H:VH):aeU [v0,v1,v2] H =
 (o6 v0).bind fun x5 =>
 (a8 (.int .i64) .lss v2 x5).bind fun x6 =>
 j5 x6 (
 (id (
 (id (
 (l4 (strip v0) (strip v2)).bind fun x9 =>
 (a8 (.int .u8) .eql x9 (.int .u8 34)).bind fun x10 =>
 l3 x10 (
 (aao (.sl true [[(.int .u8 92)]]) H).bind fun x15 =>
 (a8 .str .add v1 x15).bind fun x16 =>
 some (0,[(strip (strip v0)),x16,(strip (strip v2))],H)) (
 (l4 (strip (strip v0)) (strip (strip v2))).bind fun x20 =>
 (a8 (.int .u8) .eql x20 (.int .u8 92)).bind fun x21 =>
 j5 x21 (
 (aao (.sl true [[(.int .u8 92)]]) H).bind fun x25 =>
 (a8 .str .add v1 x25).bind fun x26 =>
 some (0,[(strip (strip (strip v0))),x26,(strip (strip (strip v2)))],H)) (
 some (0,[(strip (strip (strip v0))),v1,(strip (strip (strip v2)))],H))):Option (Nat × List V × VH))).bind fun r28 =>
 y5 r28.1 [
 j8 3 r28.2.1 fun v29 =>
 (a8 (.int .i64) .add (strip (v29 2)) (.int .i64 1)).bind fun x34 =>
 (w4 (v29 0) (some (v29 2)) (some x34)).bind fun x35 =>
 (a8 .str .add (v29 1) x35).bind fun x36 =>
 some (0,[(strip (v29 0)),x36,(strip (strip (v29 2)))],r28.2.2)]:Option (Nat × List V × VH))).bind fun r38 =>
 y5 r38.1 [
 j8 3 r38.2.1 fun v39 =>
 (a8 (.int .i64) .add (v39 2) (.int .i64 1)).bind fun x41 =>
 some (none,[(v39 0),(v39 1),x41],r38.2.2)]) (
 some (some 0,[v1],H)):=by kernel_rfl
theorem ak6 (a0:V) (H:VH):cv aac [a0] H =
 (n7 aeU [a0,(.str [34]),(.int .i64 0)] H).bind fun r43 =>
 y5 r43.1 [
 j8 1 r43.2.1 fun v44 =>
 (a8 .str .add (v44 0) (.str [34])).bind fun x46 =>
 some (x46,r43.2.2)]:=(j6 vb _ _ _ rfl).trans (by kernel_rfl)
theorem alE (a0 a1 a2:V) (H:VH):cv acB [a0,a1,a2] H =
 (id (
 (o6 a1).bind fun x2 =>
 (a8 (.int .i64) .eql x2 (.int .i64 0)).bind fun x3 =>
 l3 x3 (
 some (0,[(strip a1)],H)) (
 (cv D5 [(strip a0),(.int .i64 2)] H).bind fun r10 =>
 (a8 (.int .i64) .eql r10.1 (.int .i64 0)).bind fun x11 =>
 j5 x11 (
 some (0,[(strip a1)],r10.2)) (
 some (1,[(strip a0),(strip a1),a2],r10.2))):Option (Nat × List V × VH))).bind fun r15 =>
 y5 r15.1 [
 j8 1 r15.2.1 fun v16 =>
 some ((v16 0),r15.2.2),
 j8 3 r15.2.1 fun v17 =>
 (o6 (v17 1)).bind fun x20 =>
 (cv D5 [(strip (v17 0)),(strip x20)] r15.2.2).bind fun r22 =>
 (w4 (strip (v17 1)) none (some r22.1)).bind fun x26 =>
 (cv D7 [(strip (strip (v17 0))),(strip (strip (v17 2)))] r22.2).bind fun r30 =>
 (a8 .str .add x26 r30.1).bind fun x31 =>
 (cv D5 [(strip (strip (strip (v17 0)))),(.int .i64 2)] r30.2).bind fun r36 =>
 (a8 (.int .i64) .add (strip r22.1) r36.1).bind fun x37 =>
 (w4 (strip (strip (v17 1))) (some x37) none).bind fun x38 =>
 (a8 .str .add x31 x38).bind fun x39 =>
 some (x39,r36.2)]:=(j6 vb _ _ _ rfl).trans (by kernel_rfl)
theorem agj (a0:V) (H:VH):cv K9 [a0] H =
 (qc L2 [(j7 H a0)]).bind fun x3 =>
 (D6 .not x3).bind fun x4 =>
 j5 x4 (
 some ((.o7 [(.agg [(.str []),(.str []),(.str [])]),(.bool false)]),H)) (
 (qc abX [(j7 H (strip a0)),(j7 H (.str [32]))]).bind fun x9 =>
 (qc K6 [(j7 H x9),(j7 H (.int .u8 60))]).bind fun x12 =>
 (a8 (.int .i64) .lss x12 (.int .i64 0)).bind fun x15 =>
 j5 x15 (
 (pc Q2 [(j7 H (strip x9)),(j7 H (.str []))]).bind fun x17 =>
 (p8 x17 0).bind fun x18 =>
 (p8 x17 1).bind fun x19 =>
 (F6 3 (strip x18)).bind fun c21 =>
 some ((.o7 [(.agg [(c21.getD 0 .b7),(c21.getD 1 .b7),(c21.getD 2 .b7)]),(strip x19)]),H)) (
 (w4 (strip x9) none (some (strip x12))).bind fun x25 =>
 (pc T4 [(j7 H x25)]).bind fun x26 =>
 (p8 x26 0).bind fun x28 =>
 (p8 x26 1).bind fun x29 =>
 (a8 (.int .i64) .add (strip (strip x12)) (.int .i64 1)).bind fun x34 =>
 (w4 (strip (strip x9)) (some x34) none).bind fun x35 =>
 (qc X3 [(j7 H x35),(j7 H (.str [62]))]).bind fun x36 =>
 (p8 x36 0).bind fun x38 =>
 (p8 x36 1).bind fun x39 =>
 (id (
 (D6 .not (strip x29)).bind fun x43 =>
 l3 x43 (
 some (0,[(.bool false),(.str []),(.str []),(.str [])],H)) (
 (D6 .not (strip x39)).bind fun x50 =>
 j5 x50 (
 some (0,[(.bool false),(.str []),(.str []),(.str [])],H)) (
 some (1,[(strip (strip x28)),(strip x38),(.str []),(.str []),(.str [])],H))):Option (Nat × List V × VH))).bind fun r55 =>
 y5 r55.1 [
 j8 4 r55.2.1 fun v56 =>
 some ((.o7 [(.agg [(v56 1),(v56 2),(v56 3)]),(v56 0)]),r55.2.2),
 j8 5 r55.2.1 fun v57 =>
 (cv aeN [(strip (strip (v57 0))),(.str [32])] r55.2.2).bind fun r61 =>
 (pc Q2 [(j7 r61.2 (v57 1)),(j7 r61.2 r61.1)]).bind fun x62 =>
 (p8 x62 0).bind fun x63 =>
 (p8 x62 1).bind fun x64 =>
 (F6 3 (strip x63)).bind fun c66 =>
 some ((.o7 [(.agg [(c66.getD 0 .b7),(c66.getD 1 .b7),(c66.getD 2 .b7)]),(strip x64)]),r61.2)])):=(j6 vb _ _ _ rfl).trans (by kernel_rfl)
noncomputable def U7:List V->VH->Option (Option Nat × List V × VH):=A3 (vb.ctx cv n7) (vb.b.E9 71) (vb.A7 71) ⟨⟨[0,5,6],[],[]⟩,[(.exit 0,⟨[0],[],[]⟩),(.ret,⟨[2],[],[]⟩)]⟩ (A2 Tryz.f71 2)
theorem abV (v0 v1 v2:V) (H:VH):U7 [v0,v1,v2] H =
 (a8 (.int .i64) .lss v2 v1).bind fun x4 =>
 j5 x4 (
 (l4 v0 v2).bind fun x9 =>
 (a8 (.int .u8) .lss x9 (.int .u8 32)).bind fun x10 =>
 l3 x10 (
 some (some 1,[(.bool false)],H)) (
 (l4 (strip v0) (strip v2)).bind fun x16 =>
 (a8 (.int .u8) .gtr x16 (.int .u8 126)).bind fun x17 =>
 j5 x17 (
 some (some 1,[(.bool false)],H)) (
 (a8 (.int .i64) .add (strip v2) (.int .i64 1)).bind fun x20 =>
 some (none,[(strip (strip v0)),v1,x20],H)))) (
 some (some 0,[v0],H)):=by kernel_rfl
theorem aiQ (a0:V) (H:VH):cv L2 [a0] H =
 (o6 a0).bind fun x2 =>
 (n7 U7 [(strip a0),x2,(.int .i64 0)] H).bind fun r22 =>
 y5 r22.1 [
 j8 1 r22.2.1 fun v23 =>
 (o6 (v23 0)).bind fun x25 =>
 (a8 (.int .i64) .leq x25 (.int .i64 200)).bind fun x26 =>
 some (x26,r22.2.2),
 j8 1 r22.2.1 fun v28 =>
 some ((v28 0),r22.2.2)]:=(j6 vb _ _ _ rfl).trans (by kernel_rfl)
theorem akZ (a0 a1:V) (H:VH):cv abX [a0,a1] H =
 (id (
 (a8 .str .eql a0 (.str [])).bind fun x2 =>
 l3 x2 (
 some (0,[(strip a0)],H)) (
 (a8 .str .eql a1 (.str [])).bind fun x8 =>
 j5 x8 (
 some (0,[(strip a0)],H)) (
 some (1,[(strip a0),(strip a1)],H))):Option (Nat × List V × VH))).bind fun r12 =>
 y5 r12.1 [
 j8 1 r12.2.1 fun v13 =>
 some ((v13 0),r12.2.2),
 j8 2 r12.2.1 fun v14 =>
 (id (
 (o6 (v14 1)).bind fun x16 =>
 (a8 (.int .i64) .eql x16 (.int .i64 1)).bind fun x17 =>
 l3 x17 (
 (l4 (strip (v14 1)) (.int .i64 0)).bind fun x20 =>
 (a8 (.int .u8) .lss x20 (.int .u8 128)).bind fun x21 =>
 j5 x21 (
 (l4 (strip (strip (v14 1))) (.int .i64 0)).bind fun x25 =>
 (qc F8 [(j7 r12.2.2 (v14 0)),(j7 r12.2.2 x25)]).bind fun x26 =>
 (l4 (strip (strip (strip (v14 1)))) (.int .i64 0)).bind fun x28 =>
 (qc G7 [(j7 r12.2.2 x26),(j7 r12.2.2 x28)]).bind fun x29 =>
 some (0,[x29],r12.2.2)) (
 some (1,[(v14 0),(strip (strip (v14 1)))],r12.2.2))) (
 some (1,[(v14 0),(strip (v14 1))],r12.2.2)):Option (Nat × List V × VH))).bind fun r32 =>
 y5 r32.1 [
 j8 1 r32.2.1 fun v33 =>
 some ((v33 0),r32.2.2),
 j8 2 r32.2.1 fun v34 =>
 (pc aev [(j7 r32.2.2 (v34 1))]).bind fun x36 =>
 (p8 x36 0).bind fun x38 =>
 (p8 x36 1).bind fun x39 =>
 (F6 256 (strip x38)).bind fun c42 =>
 (stO (.ptr r32.2.2.length 0) [(c42.getD 0 .b7),(c42.getD 1 .b7),(c42.getD 2 .b7),(c42.getD 3 .b7),(c42.getD 4 .b7),(c42.getD 5 .b7),(c42.getD 6 .b7),(c42.getD 7 .b7),(c42.getD 8 .b7),(c42.getD 9 .b7),(c42.getD 10 .b7),(c42.getD 11 .b7),(c42.getD 12 .b7),(c42.getD 13 .b7),(c42.getD 14 .b7),(c42.getD 15 .b7),(c42.getD 16 .b7),(c42.getD 17 .b7),(c42.getD 18 .b7),(c42.getD 19 .b7),(c42.getD 20 .b7),(c42.getD 21 .b7),(c42.getD 22 .b7),(c42.getD 23 .b7),(c42.getD 24 .b7),(c42.getD 25 .b7),(c42.getD 26 .b7),(c42.getD 27 .b7),(c42.getD 28 .b7),(c42.getD 29 .b7),(c42.getD 30 .b7),(c42.getD 31 .b7),(c42.getD 32 .b7),(c42.getD 33 .b7),(c42.getD 34 .b7),(c42.getD 35 .b7),(c42.getD 36 .b7),(c42.getD 37 .b7),(c42.getD 38 .b7),(c42.getD 39 .b7),(c42.getD 40 .b7),(c42.getD 41 .b7),(c42.getD 42 .b7),(c42.getD 43 .b7),(c42.getD 44 .b7),(c42.getD 45 .b7),(c42.getD 46 .b7),(c42.getD 47 .b7),(c42.getD 48 .b7),(c42.getD 49 .b7),(c42.getD 50 .b7),(c42.getD 51 .b7),(c42.getD 52 .b7),(c42.getD 53 .b7),(c42.getD 54 .b7),(c42.getD 55 .b7),(c42.getD 56 .b7),(c42.getD 57 .b7),(c42.getD 58 .b7),(c42.getD 59 .b7),(c42.getD 60 .b7),(c42.getD 61 .b7),(c42.getD 62 .b7),(c42.getD 63 .b7),(c42.getD 64 .b7),(c42.getD 65 .b7),(c42.getD 66 .b7),(c42.getD 67 .b7),(c42.getD 68 .b7),(c42.getD 69 .b7),(c42.getD 70 .b7),(c42.getD 71 .b7),(c42.getD 72 .b7),(c42.getD 73 .b7),(c42.getD 74 .b7),(c42.getD 75 .b7),(c42.getD 76 .b7),(c42.getD 77 .b7),(c42.getD 78 .b7),(c42.getD 79 .b7),(c42.getD 80 .b7),(c42.getD 81 .b7),(c42.getD 82 .b7),(c42.getD 83 .b7),(c42.getD 84 .b7),(c42.getD 85 .b7),(c42.getD 86 .b7),(c42.getD 87 .b7),(c42.getD 88 .b7),(c42.getD 89 .b7),(c42.getD 90 .b7),(c42.getD 91 .b7),(c42.getD 92 .b7),(c42.getD 93 .b7),(c42.getD 94 .b7),(c42.getD 95 .b7),(c42.getD 96 .b7),(c42.getD 97 .b7),(c42.getD 98 .b7),(c42.getD 99 .b7),(c42.getD 100 .b7),(c42.getD 101 .b7),(c42.getD 102 .b7),(c42.getD 103 .b7),(c42.getD 104 .b7),(c42.getD 105 .b7),(c42.getD 106 .b7),(c42.getD 107 .b7),(c42.getD 108 .b7),(c42.getD 109 .b7),(c42.getD 110 .b7),(c42.getD 111 .b7),(c42.getD 112 .b7),(c42.getD 113 .b7),(c42.getD 114 .b7),(c42.getD 115 .b7),(c42.getD 116 .b7),(c42.getD 117 .b7),(c42.getD 118 .b7),(c42.getD 119 .b7),(c42.getD 120 .b7),(c42.getD 121 .b7),(c42.getD 122 .b7),(c42.getD 123 .b7),(c42.getD 124 .b7),(c42.getD 125 .b7),(c42.getD 126 .b7),(c42.getD 127 .b7),(c42.getD 128 .b7),(c42.getD 129 .b7),(c42.getD 130 .b7),(c42.getD 131 .b7),(c42.getD 132 .b7),(c42.getD 133 .b7),(c42.getD 134 .b7),(c42.getD 135 .b7),(c42.getD 136 .b7),(c42.getD 137 .b7),(c42.getD 138 .b7),(c42.getD 139 .b7),(c42.getD 140 .b7),(c42.getD 141 .b7),(c42.getD 142 .b7),(c42.getD 143 .b7),(c42.getD 144 .b7),(c42.getD 145 .b7),(c42.getD 146 .b7),(c42.getD 147 .b7),(c42.getD 148 .b7),(c42.getD 149 .b7),(c42.getD 150 .b7),(c42.getD 151 .b7),(c42.getD 152 .b7),(c42.getD 153 .b7),(c42.getD 154 .b7),(c42.getD 155 .b7),(c42.getD 156 .b7),(c42.getD 157 .b7),(c42.getD 158 .b7),(c42.getD 159 .b7),(c42.getD 160 .b7),(c42.getD 161 .b7),(c42.getD 162 .b7),(c42.getD 163 .b7),(c42.getD 164 .b7),(c42.getD 165 .b7),(c42.getD 166 .b7),(c42.getD 167 .b7),(c42.getD 168 .b7),(c42.getD 169 .b7),(c42.getD 170 .b7),(c42.getD 171 .b7),(c42.getD 172 .b7),(c42.getD 173 .b7),(c42.getD 174 .b7),(c42.getD 175 .b7),(c42.getD 176 .b7),(c42.getD 177 .b7),(c42.getD 178 .b7),(c42.getD 179 .b7),(c42.getD 180 .b7),(c42.getD 181 .b7),(c42.getD 182 .b7),(c42.getD 183 .b7),(c42.getD 184 .b7),(c42.getD 185 .b7),(c42.getD 186 .b7),(c42.getD 187 .b7),(c42.getD 188 .b7),(c42.getD 189 .b7),(c42.getD 190 .b7),(c42.getD 191 .b7),(c42.getD 192 .b7),(c42.getD 193 .b7),(c42.getD 194 .b7),(c42.getD 195 .b7),(c42.getD 196 .b7),(c42.getD 197 .b7),(c42.getD 198 .b7),(c42.getD 199 .b7),(c42.getD 200 .b7),(c42.getD 201 .b7),(c42.getD 202 .b7),(c42.getD 203 .b7),(c42.getD 204 .b7),(c42.getD 205 .b7),(c42.getD 206 .b7),(c42.getD 207 .b7),(c42.getD 208 .b7),(c42.getD 209 .b7),(c42.getD 210 .b7),(c42.getD 211 .b7),(c42.getD 212 .b7),(c42.getD 213 .b7),(c42.getD 214 .b7),(c42.getD 215 .b7),(c42.getD 216 .b7),(c42.getD 217 .b7),(c42.getD 218 .b7),(c42.getD 219 .b7),(c42.getD 220 .b7),(c42.getD 221 .b7),(c42.getD 222 .b7),(c42.getD 223 .b7),(c42.getD 224 .b7),(c42.getD 225 .b7),(c42.getD 226 .b7),(c42.getD 227 .b7),(c42.getD 228 .b7),(c42.getD 229 .b7),(c42.getD 230 .b7),(c42.getD 231 .b7),(c42.getD 232 .b7),(c42.getD 233 .b7),(c42.getD 234 .b7),(c42.getD 235 .b7),(c42.getD 236 .b7),(c42.getD 237 .b7),(c42.getD 238 .b7),(c42.getD 239 .b7),(c42.getD 240 .b7),(c42.getD 241 .b7),(c42.getD 242 .b7),(c42.getD 243 .b7),(c42.getD 244 .b7),(c42.getD 245 .b7),(c42.getD 246 .b7),(c42.getD 247 .b7),(c42.getD 248 .b7),(c42.getD 249 .b7),(c42.getD 250 .b7),(c42.getD 251 .b7),(c42.getD 252 .b7),(c42.getD 253 .b7),(c42.getD 254 .b7),(c42.getD 255 .b7)] (r32.2.2++[[(.bool false),(.bool false),(.bool false),(.bool false),(.bool false),(.bool false),(.bool false),(.bool false),(.bool false),(.bool false),(.bool false),(.bool false),(.bool false),(.bool false),(.bool false),(.bool false),(.bool false),(.bool false),(.bool false),(.bool false),(.bool false),(.bool false),(.bool false),(.bool false),(.bool false),(.bool false),(.bool false),(.bool false),(.bool false),(.bool false),(.bool false),(.bool false),(.bool false),(.bool false),(.bool false),(.bool false),(.bool false),(.bool false),(.bool false),(.bool false),(.bool false),(.bool false),(.bool false),(.bool false),(.bool false),(.bool false),(.bool false),(.bool false),(.bool false),(.bool false),(.bool false),(.bool false),(.bool false),(.bool false),(.bool false),(.bool false),(.bool false),(.bool false),(.bool false),(.bool false),(.bool false),(.bool false),(.bool false),(.bool false),(.bool false),(.bool false),(.bool false),(.bool false),(.bool false),(.bool false),(.bool false),(.bool false),(.bool false),(.bool false),(.bool false),(.bool false),(.bool false),(.bool false),(.bool false),(.bool false),(.bool false),(.bool false),(.bool false),(.bool false),(.bool false),(.bool false),(.bool false),(.bool false),(.bool false),(.bool false),(.bool false),(.bool false),(.bool false),(.bool false),(.bool false),(.bool false),(.bool false),(.bool false),(.bool false),(.bool false),(.bool false),(.bool false),(.bool false),(.bool false),(.bool false),(.bool false),(.bool false),(.bool false),(.bool false),(.bool false),(.bool false),(.bool false),(.bool false),(.bool false),(.bool false),(.bool false),(.bool false),(.bool false),(.bool false),(.bool false),(.bool false),(.bool false),(.bool false),(.bool false),(.bool false),(.bool false),(.bool false),(.bool false),(.bool false),(.bool false),(.bool false),(.bool false),(.bool false),(.bool false),(.bool false),(.bool false),(.bool false),(.bool false),(.bool false),(.bool false),(.bool false),(.bool false),(.bool false),(.bool false),(.bool false),(.bool false),(.bool false),(.bool false),(.bool false),(.bool false),(.bool false),(.bool false),(.bool false),(.bool false),(.bool false),(.bool false),(.bool false),(.bool false),(.bool false),(.bool false),(.bool false),(.bool false),(.bool false),(.bool false),(.bool false),(.bool false),(.bool false),(.bool false),(.bool false),(.bool false),(.bool false),(.bool false),(.bool false),(.bool false),(.bool false),(.bool false),(.bool false),(.bool false),(.bool false),(.bool false),(.bool false),(.bool false),(.bool false),(.bool false),(.bool false),(.bool false),(.bool false),(.bool false),(.bool false),(.bool false),(.bool false),(.bool false),(.bool false),(.bool false),(.bool false),(.bool false),(.bool false),(.bool false),(.bool false),(.bool false),(.bool false),(.bool false),(.bool false),(.bool false),(.bool false),(.bool false),(.bool false),(.bool false),(.bool false),(.bool false),(.bool false),(.bool false),(.bool false),(.bool false),(.bool false),(.bool false),(.bool false),(.bool false),(.bool false),(.bool false),(.bool false),(.bool false),(.bool false),(.bool false),(.bool false),(.bool false),(.bool false),(.bool false),(.bool false),(.bool false),(.bool false),(.bool false),(.bool false),(.bool false),(.bool false),(.bool false),(.bool false),(.bool false),(.bool false),(.bool false),(.bool false),(.bool false),(.bool false),(.bool false),(.bool false),(.bool false),(.bool false),(.bool false),(.bool false),(.bool false),(.bool false),(.bool false),(.bool false),(.bool false),(.bool false),(.bool false)]])).bind fun H43 =>
 j5 (strip x39) (
 (cv adx [(strip (v34 0)),(.ptr r32.2.2.length 0)] H43).bind fun r48 =>
 (cv ad7 [(strip r48.1),(.ptr r32.2.2.length 0)] r48.2).bind fun r50 =>
 some (r50.1,r50.2)) (
 (qc acO [(j7 H43 (v34 0)),(j7 H43 (strip (v34 1)))]).bind fun x54 =>
 (qc adl [(j7 H43 x54),(j7 H43 (strip (strip (v34 1))))]).bind fun x56 =>
 some (x56,H43))]]:=(j6 vb _ _ _ rfl).trans (by kernel_rfl)
noncomputable def aaq:List V->VH->Option (Option Nat × List V × VH):=A3 (vb.ctx cv n7) (vb.b.E9 142) (vb.A7 142) ⟨⟨[0,1],[],[]⟩,[(.exit 0,⟨[0],[],[]⟩)]⟩ (A2 Tryz.f142 1)
theorem ac8 (v0 v1:V) (H:VH):aaq [v0,v1] H =
 (id (
 (o6 v0).bind fun x2 =>
 (a8 (.int .i64) .gtr x2 (.int .i64 0)).bind fun x3 =>
 l3 x3 (
 (o6 (strip (strip v0))).bind fun x7 =>
 (a8 (.int .i64) .sub x7 (.int .i64 1)).bind fun x8 =>
 (l4 (strip v0) x8).bind fun x9 =>
 (a8 (.int .u8) .eql x9 v1).bind fun x11 =>
 j5 x11 (
 some (0,[(strip (strip (strip v0))),(strip v1)],H)) (
 some (1,[(strip (strip (strip v0)))],H))) (
 some (1,[(strip v0)],H)):Option (Nat × List V × VH))).bind fun r14 =>
 y5 r14.1 [
 j8 2 r14.2.1 fun v15 =>
 (o6 (strip (v15 0))).bind fun x18 =>
 (a8 (.int .i64) .sub x18 (.int .i64 1)).bind fun x19 =>
 (w4 (v15 0) none (some x19)).bind fun x20 =>
 some (none,[x20,(v15 1)],r14.2.2),
 j8 1 r14.2.1 fun v22 =>
 some (some 0,[(v22 0)],r14.2.2)]:=by kernel_rfl
theorem adU (a0 a1:V) (H:VH):cv F8 [a0,a1] H =
 (n7 aaq [a0,a1] H).bind fun r23 =>
 y5 r23.1 [
 j8 1 r23.2.1 fun v24 =>
 some ((v24 0),r23.2.2)]:=(j6 vb _ _ _ rfl).trans (by kernel_rfl)
noncomputable def aaX:List V->VH->Option (Option Nat × List V × VH):=A3 (vb.ctx cv n7) (vb.b.E9 141) (vb.A7 141) ⟨⟨[0,1],[],[]⟩,[(.exit 0,⟨[0],[],[]⟩)]⟩ (A2 Tryz.f141 1)
theorem adn (v0 v1:V) (H:VH):aaX [v0,v1] H =
 (id (
 (o6 v0).bind fun x2 =>
 (a8 (.int .i64) .gtr x2 (.int .i64 0)).bind fun x3 =>
 l3 x3 (
 (l4 (strip v0) (.int .i64 0)).bind fun x6 =>
 (a8 (.int .u8) .eql x6 v1).bind fun x8 =>
 j5 x8 (
 some (0,[(strip (strip v0)),(strip v1)],H)) (
 some (1,[(strip (strip v0))],H))) (
 some (1,[(strip v0)],H)):Option (Nat × List V × VH))).bind fun r11 =>
 y5 r11.1 [
 j8 2 r11.2.1 fun v12 =>
 (w4 (v12 0) (some (.int .i64 1)) none).bind fun x14 =>
 some (none,[x14,(v12 1)],r11.2.2),
 j8 1 r11.2.1 fun v16 =>
 some (some 0,[(v16 0)],r11.2.2)]:=by kernel_rfl
theorem aew (a0 a1:V) (H:VH):cv G7 [a0,a1] H =
 (n7 aaX [a0,a1] H).bind fun r17 =>
 y5 r17.1 [
 j8 1 r17.2.1 fun v18 =>
 some ((v18 0),r17.2.2)]:=(j6 vb _ _ _ rfl).trans (by kernel_rfl)
noncomputable def aeJ:List V->VH->Option (Option Nat × List V × VH):=A3 (vb.ctx cv n7) (vb.b.E9 73) (vb.A7 73) ⟨⟨[0,1,5],[],[]⟩,[(.exit 0,⟨[],[],[]⟩),(.ret,⟨[4],[],[]⟩)]⟩ (A2 Tryz.f73 2)
theorem ag5 (v0 v1 v2:V) (H:VH):aeJ [v0,v1,v2] H =
 (o6 v0).bind fun x4 =>
 (a8 (.int .i64) .lss v2 x4).bind fun x5 =>
 j5 x5 (
 (id (
 (l4 (strip v0) (strip v2)).bind fun x8 =>
 (a8 (.int .u8) .eql x8 (.int .u8 34)).bind fun x9 =>
 j5 x9 (
 (w4 (strip (strip v0)) (some (strip (strip v2))) none).bind fun x13 =>
 (qc V7 [(j7 H x13)]).bind fun x14 =>
 (p8 x14 0).bind fun x16 =>
 (p8 x14 1).bind fun x17 =>
 (p8 x14 2).bind fun x18 =>
 (D6 .not (strip x18)).bind fun x23 =>
 j5 x23 (
 some (0,[(.int .i64 (-1))],H)) (
 (a8 (.int .i64) .sub (strip x17) (.int .i64 1)).bind fun x27 =>
 (a8 (.int .i64) .add (strip (strip (strip v2))) x27).bind fun x28 =>
 some (1,[(strip (strip (strip v0))),v1,x28],H))) (
 (a8 (.int .u8) .eql x8 v1).bind fun x31 =>
 j5 x31 (
 some (0,[(strip (strip v2))],H)) (
 some (1,[(strip (strip v0)),(strip v1),(strip (strip v2))],H))):Option (Nat × List V × VH))).bind fun r35 =>
 y5 r35.1 [
 j8 1 r35.2.1 fun v36 =>
 some (some 1,[(v36 0)],r35.2.2),
 j8 3 r35.2.1 fun v37 =>
 (a8 (.int .i64) .add (v37 2) (.int .i64 1)).bind fun x39 =>
 some (none,[(v37 0),(v37 1),x39],r35.2.2)]) (
 some (some 0,[],H)):=by kernel_rfl
theorem akC (a0 a1:V) (H:VH):cv K6 [a0,a1] H =
 (n7 aeJ [a0,a1,(.int .i64 0)] H).bind fun r41 =>
 y5 r41.1 [
 j8 0 r41.2.1 fun v42 =>
 some ((.int .i64 (-1)),r41.2.2),
 j8 1 r41.2.1 fun v44 =>
 some ((v44 0),r41.2.2)]:=(j6 vb _ _ _ rfl).trans (by kernel_rfl)
noncomputable def afT:List V->VH->Option (Option Nat × List V × VH):=A3 (vb.ctx cv n7) (vb.b.E9 148) (vb.A7 148) ⟨⟨[0,5,6],[],[]⟩,[(.exit 0,⟨[],[],[]⟩),(.ret,⟨[2,3,4],[],[]⟩)]⟩ (A2 Tryz.f148 3)
theorem aiy (v0 v1 v2:V) (H:VH):afT [v0,v1,v2] H =
 (o6 v0).bind fun x8 =>
 (a8 (.int .i64) .lss v2 x8).bind fun x9 =>
 j5 x9 (
 (id (
 (id (
 (l4 (strip v0) (strip v2)).bind fun x12 =>
 (a8 (.int .u8) .eql x12 (.int .u8 34)).bind fun x13 =>
 j5 x13 (
 (aao (strip v1) H).bind fun x16 =>
 (a8 (.int .i64) .add (strip (strip v2)) (.int .i64 1)).bind fun x18 =>
 some (0,[x16,x18,(.bool true)],H)) (
 (l4 (strip (strip v0)) (strip (strip v2))).bind fun x24 =>
 (a8 (.int .u8) .eql x24 (.int .u8 92)).bind fun x25 =>
 j5 x25 (
 (a8 (.int .i64) .add (strip (strip (strip v2))) (.int .i64 1)).bind fun x28 =>
 (o6 (strip (strip (strip v0)))).bind fun x32 =>
 (a8 (.int .i64) .eql x28 x32).bind fun x33 =>
 j5 x33 (
 some (0,[(.str []),(.int .i64 0),(.bool false)],H)) (
 some (1,[(strip (strip (strip (strip v0)))),v1,(strip x28)],H))) (
 some (1,[(strip (strip (strip v0))),v1,(strip (strip (strip v2)))],H))):Option (Nat × List V × VH))).bind fun r37 =>
 y5 r37.1 [
 j8 3 r37.2.1 fun v38 =>
 some (0,[(v38 0),(v38 1),(v38 2)],r37.2.2),
 j8 3 r37.2.1 fun v39 =>
 (l4 (v39 0) (v39 2)).bind fun x43 =>
 (A6 x43).bind fun y45 =>
 (abC (v39 1)).bind fun s47 =>
 (L7 false 1 1 s47 (.sl true [[y45]])).bind fun x46 =>
 some (1,[(strip (v39 0)),x46,(strip (v39 2))],r37.2.2)]:Option (Nat × List V × VH))).bind fun r49 =>
 y5 r49.1 [
 j8 3 r49.2.1 fun v50 =>
 some (some 1,[(v50 0),(v50 1),(v50 2)],r49.2.2),
 j8 3 r49.2.1 fun v51 =>
 (a8 (.int .i64) .add (v51 2) (.int .i64 1)).bind fun x53 =>
 some (none,[(v51 0),(v51 1),x53],r49.2.2)]) (
 some (some 0,[],H)):=by kernel_rfl
theorem alH (a0:V) (H:VH):cv V7 [a0] H =
 (n7 afT [a0,(.sl true []),(.int .i64 1)] H).bind fun r55 =>
 y5 r55.1 [
 j8 0 r55.2.1 fun v56 =>
 some ((.o7 [(.str []),(.int .i64 0),(.bool false)]),r55.2.2),
 j8 3 r55.2.1 fun v60 =>
 some ((.o7 [(v60 0),(v60 1),(v60 2)]),r55.2.2)]:=(j6 vb _ _ _ rfl).trans (by kernel_rfl)
theorem ajQ (a0 a1:V) (H:VH):cv Q2 [a0,a1] H =
 (qc K6 [(j7 H a0),(j7 H (.int .u8 64))]).bind fun x3 =>
 (a8 (.int .i64) .lss x3 (.int .i64 0)).bind fun x6 =>
 j5 x6 (
 some ((.o7 [(.agg [(.str []),(.str []),(.str [])]),(.bool false)]),H)) (
 (w4 (strip a0) none (some (strip x3))).bind fun x13 =>
 (a8 (.int .i64) .add (strip (strip x3)) (.int .i64 1)).bind fun x16 =>
 (w4 (strip (strip a0)) (some x16) none).bind fun x17 =>
 (qc U4 [(j7 H x17)]).bind fun x18 =>
 (A6 a1).bind fun y20 =>
 (A6 x13).bind fun y21 =>
 (A6 x18).bind fun y22 =>
 (stO (.ptr H.length 0) [y20,y21,y22] (H++[[(.str []),(.str []),(.str [])]])).bind fun H25 =>
 (H5 C5 false true 3 (.ptr H.length 0) H25).bind fun r27 =>
 (qc P0 [(j7 r27.2 r27.1)]).bind fun x28 =>
 (D6 .not x28).bind fun x29 =>
 j5 x29 (
 some ((.o7 [(.agg [(.str []),(.str []),(.str [])]),(.bool false)]),r27.2)) (
 (H5 C5 false true 3 (.ptr H.length 0) r27.2).bind fun r34 =>
 (F6 3 r34.1).bind fun c36 =>
 some ((.o7 [(.agg [(c36.getD 0 .b7),(c36.getD 1 .b7),(c36.getD 2 .b7)]),(.bool true)]),r34.2))):=(j6 vb _ _ _ rfl).trans (by kernel_rfl)
noncomputable def ads:List V->VH->Option (Option Nat × List V × VH):=A3 (vb.ctx cv n7) (vb.b.E9 88) (vb.A7 88) ⟨⟨[3,8,9,10],[],[]⟩,[(.exit 0,⟨[3],[],[]⟩)]⟩ (A2 Tryz.f88 3)
theorem af7 (v0 v1 v2 v3:V) (H:VH):ads [v0,v1,v2,v3] H =
 (a8 (.int .i64) .lss v3 v2).bind fun x7 =>
 j5 x7 (
 (G5 1 v1 (strip v3)).bind fun x9 =>
 (H5 C5 false false 1 x9 H).bind fun r11 =>
 (a8 (.int .u8) .geq r11.1 (.int .u8 65)).bind fun x15 =>
 l3 x15 (
 (a8 (.int .u8) .leq (strip r11.1) (.int .u8 90)).bind fun x18 =>
 j5 x18 (
 (G5 1 (strip v0) v3).bind fun x22 =>
 (H5 C5 false false 1 x22 r11.2).bind fun r24 =>
 (a8 (.int .u8) .add r24.1 (.int .u8 32)).bind fun x25 =>
 (G5 1 (strip v0) v3).bind fun x26 =>
 (A6 x25).bind fun y28 =>
 (stO x26 [y28] r24.2).bind fun H29 =>
 (a8 (.int .i64) .add (strip v3) (.int .i64 1)).bind fun x30 =>
 some (none,[v0,v1,v2,x30],H29)) (
 (a8 (.int .i64) .add (strip v3) (.int .i64 1)).bind fun x32 =>
 some (none,[v0,v1,v2,x32],r11.2))) (
 (a8 (.int .i64) .add (strip v3) (.int .i64 1)).bind fun x35 =>
 some (none,[v0,v1,v2,x35],r11.2))) (
 some (some 0,[v0],H)):=by kernel_rfl
theorem aiC (a0:V) (H:VH):cv U4 [a0] H =
 (ans a0).bind fun x2 =>
 (I1 (.z8 H.length 0 x2.length 1)).bind fun x5 =>
 (n7 ads [(.z8 H.length 0 x2.length 1),(.z8 H.length 0 x2.length 1),x5,(.int .i64 0)] (H++[x2])).bind fun r37 =>
 y5 r37.1 [
 j8 1 r37.2.1 fun v38 =>
 (aao (strip (v38 0)) r37.2.2).bind fun x40 =>
 some (x40,r37.2.2)]:=(j6 vb _ _ _ rfl).trans (by kernel_rfl)
theorem agD (a0:V) (H:VH):cv P0 [a0] H =
 (F6 3 a0).bind fun c1 =>
 (qc L2 [(j7 H (strip (c1.getD 0 .b7)))]).bind fun x5 =>
 l3 x5 (
 (o6 (strip (c1.getD 0 .b7))).bind fun x9 =>
 (a8 (.int .i64) .leq x9 (.int .i64 40)).bind fun x10 =>
 l3 x10 (
 (qc abM [(j7 H (strip (c1.getD 1 .b7)))]).bind fun x15 =>
 l3 x15 (
 (qc abu [(j7 H (strip (c1.getD 2 .b7)))]).bind fun x20 =>
 some (x20,H)) (
 some ((.bool false),H))) (
 some ((.bool false),H))) (
 some ((.bool false),H)):=(j6 vb _ _ _ rfl).trans (by kernel_rfl)
theorem akY (a0:V) (H:VH):cv abM [a0] H =
 (o6 a0).bind fun x2 =>
 (a8 (.int .i64) .leq x2 (.int .i64 30)).bind fun x3 =>
 l3 x3 (
 (pc M9 [(j7 H (strip a0)),(j7 H (.str [46]))]).bind fun x6 =>
 (qc B5 [(j7 H x6),(j7 H (.fn V3 []))]).bind fun x7 =>
 (D6 .not x7).bind fun x8 =>
 some (x8,H)) (
 some ((.bool false),H)):=(j6 vb _ _ _ rfl).trans (by kernel_rfl)
theorem ajW (a0 a1:V) (H:VH):cv M9 [a0,a1] H =
 (pcg R6 H [a0,a1,(.int .i64 0),(.int .i64 (-1))]).bind fun r4 =>
 some (r4.1,r4.2):=(j6 vb _ _ _ rfl).trans (by kernel_rfl)
noncomputable def P4:List V->VH->Option (Option Nat × List V × VH):=A3 (vb.ctx cv n7) (vb.b.E9 127) (vb.A7 127) ⟨⟨[0,1,2,3,9,10],[],[]⟩,[(.exit 0,⟨[0,9,10],[],[]⟩)]⟩ (A2 Tryz.f127 11)
theorem aaY (v0 v1 v2 v3 v4 v5:V) (H:VH):P4 [v0,v1,v2,v3,v4,v5] H =
 (a8 (.int .i64) .lss v5 v3).bind fun x34 =>
 j5 x34 (
 (qc abt [(j7 H v0),(j7 H v1)]).bind fun x37 =>
 (a8 (.int .i64) .lss x37 (.int .i64 0)).bind fun x40 =>
 j5 x40 (
 some (some 0,[(strip v0),v4,(strip v5)],H)) (
 (a8 (.int .i64) .add (strip x37) v2).bind fun x46 =>
 (w4 (strip v0) none (some x46)).bind fun x47 =>
 (G5 1 (strip v4) (strip v5)).bind fun x48 =>
 (A6 x47).bind fun y50 =>
 (stO x48 [y50] H).bind fun H51 =>
 (o6 (strip v1)).bind fun x55 =>
 (a8 (.int .i64) .add (strip (strip x37)) x55).bind fun x56 =>
 (w4 (strip (strip v0)) (some x56) none).bind fun x57 =>
 (a8 (.int .i64) .add (strip (strip v5)) (.int .i64 1)).bind fun x60 =>
 some (none,[x57,(strip (strip v1)),(strip v2),(strip v3),v4,x60],H51))) (
 some (some 0,[v0,v4,(strip v5)],H)):=by kernel_rfl
theorem agZ (a0 a1 a2 a3:V) (H:VH):cv R6 [a0,a1,a2,a3] H =
 (a8 (.int .i64) .eql a3 (.int .i64 0)).bind fun x2 =>
 j5 x2 (
 some ((.sl true []),H)) (
 (a8 .str .eql a1 (.str [])).bind fun x5 =>
 j5 x5 (
 (pc ahJ [(j7 H a0),(j7 H (strip a3))]).bind fun x8 =>
 some (x8,H)) (
 (id (
 (a8 (.int .i64) .lss (strip a3) (.int .i64 0)).bind fun x11 =>
 j5 x11 (
 (qc abw [(j7 H a0),(j7 H (strip a1))]).bind fun x14 =>
 (a8 (.int .i64) .add x14 (.int .i64 1)).bind fun x15 =>
 some (0,[(strip a0),(strip (strip a1)),a2,x15],H)) (
 some (0,[a0,(strip a1),a2,(strip (strip a3))],H)):Option (Nat × List V × VH))).bind fun r17 =>
 y5 r17.1 [
 j8 4 r17.2.1 fun v18 =>
 (o6 (v18 0)).bind fun x21 =>
 (a8 (.int .i64) .add x21 (.int .i64 1)).bind fun x22 =>
 (aic (v18 3) x22).bind fun x23 =>
 (ahk 16 x23 x23).bind fun x26 =>
 (a8 (.int .i64) .sub (strip x23) (.int .i64 1)).bind fun x29 =>
 (n7 P4 [(strip (v18 0)),(v18 1),(v18 2),x29,(.z8 r17.2.2.length 0 x26.1 1),(.int .i64 0)] (r17.2.2++[aan x26.2 [(.str [])]])).bind fun r62 =>
 y5 r62.1 [
 j8 3 r62.2.1 fun v63 =>
 (G5 1 (strip (v63 1)) (v63 2)).bind fun x67 =>
 (A6 (v63 0)).bind fun y69 =>
 (stO x67 [y69] r62.2.2).bind fun H70 =>
 (a8 (.int .i64) .add (strip (v63 2)) (.int .i64 1)).bind fun x73 =>
 (U1 1 (strip (v63 1)) none (some x73)).bind fun x74 =>
 some (x74,H70)]])):=(j6 vb _ _ _ rfl).trans (by kernel_rfl)
noncomputable def ajl:List V->VH->Option (Option Nat × List V × VH):=A3 (vb.ctx cv n7) (vb.b.E9 182) (vb.A7 182) ⟨⟨[0,1,5],[],[]⟩,[(.ret,⟨[4],[],[]⟩)]⟩ (A2 Tryz.f182 6)
theorem ajo (a0 a1:V) (H:VH):cv abw [a0,a1] H =
 (o6 a1).bind fun x2 =>
 (a8 (.int .i64) .eql x2 (.int .i64 0)).bind fun x3 =>
 j5 x3 (
 (qc abe [(j7 H a0)]).bind fun x5 =>
 (a8 (.int .i64) .add x5 (.int .i64 1)).bind fun x6 =>
 some (x6,H)) (
 (o6 (strip a1)).bind fun x9 =>
 (a8 (.int .i64) .eql x9 (.int .i64 1)).bind fun x10 =>
 j5 x10 (
 (l4 (strip (strip a1)) (.int .i64 0)).bind fun x13 =>
 (ajP 1 [a0,x13] fun x14 =>
  some (x14,H))) (
 (n7 ajl [a0,(strip (strip a1)),(.int .i64 0)] H).bind fun r35 =>
 y5 r35.1 [
 j8 1 r35.2.1 fun v36 =>
 some ((v36 0),r35.2.2)])):=(j6 vb _ _ _ rfl).trans (by kernel_rfl)
theorem ajv (a0 a1:V) (H:VH):cv abt [a0,a1] H =
 (qc F7 [(j7 H a0),(j7 H a1)]).bind fun x3 =>
 some (x3,H):=(j6 vb _ _ _ rfl).trans (by kernel_rfl)
noncomputable def abZ:List V->VH->Option (Option Nat × List V × VH):=A3 (vb.ctx cv n7) (vb.b.E9 209) (vb.A7 209) ⟨⟨[0,1,5,6,7,8,9,10],[],[]⟩,[(.exit 1,⟨[],[],[]⟩),(.ret,⟨[4],[],[]⟩)]⟩ (A2 Tryz.f209 15)
theorem acb (a0 a1:V) (H:VH):cv F7 [a0,a1] H =
 (o6 a1).bind fun x2 =>
 (id (
 (a8 (.int .i64) .eql x2 (.int .i64 0)).bind fun x5 =>
 l3 x5 (
 some (0,[(.int .i64 0)],H)) (
 (a8 .str .eql (strip a1) a0).bind fun x12 =>
 j5 x12 (
 some (0,[(.int .i64 0)],H)) (
 (a8 (.int .i64) .eql (strip x2) (.int .i64 1)).bind fun x17 =>
 j5 x17 (
 (l4 (strip (strip a1)) (.int .i64 0)).bind fun x21 =>
 (qc I2 [(j7 H (strip a0)),(j7 H x21)]).bind fun x22 =>
 some (0,[x22],H)) (
 (o6 (strip a0)).bind fun x26 =>
 (a8 (.int .i64) .geq (strip (strip x2)) x26).bind fun x27 =>
 j5 x27 (
 some (0,[(.int .i64 (-1))],H)) (
 (H5 C5 false false 1 (.gp 1 0) H).bind fun r32 =>
 (a8 (.int .i64) .leq (strip (strip (strip x2))) r32.1).bind fun x33 =>
 l3 x33 (
 (o6 (strip (strip a0))).bind fun x36 =>
 (a8 (.int .i64) .leq x36 (.int .i64 64)).bind fun x37 =>
 j5 x37 (
 (ajP 2 [(strip (strip (strip a0))),(strip (strip a1))] fun x42 =>
  some (0,[x42],r32.2))) (
 some (1,[(strip (strip (strip a0))),(strip (strip a1)),(strip (strip (strip (strip x2))))],r32.2))) (
 some (1,[(strip (strip a0)),(strip (strip a1)),(strip (strip (strip (strip x2))))],r32.2)))))):Option (Nat × List V × VH))).bind fun r46 =>
 y5 r46.1 [
 j8 1 r46.2.1 fun v47 =>
 some ((v47 0),r46.2.2),
 j8 3 r46.2.1 fun v48 =>
 (l4 (v48 1) (.int .i64 0)).bind fun x50 =>
 (l4 (strip (v48 1)) (.int .i64 1)).bind fun x53 =>
 (o6 (v48 0)).bind fun x57 =>
 (a8 (.int .i64) .sub x57 (v48 2)).bind fun x59 =>
 (a8 (.int .i64) .add x59 (.int .i64 1)).bind fun x60 =>
 (n7 abZ [(strip (v48 0)),(strip (strip (v48 1))),(strip (v48 2)),x50,x53,(.int .i64 0),x60,(.int .i64 0)] r46.2.2).bind fun r208 =>
 y5 r208.1 [
 j8 0 r208.2.1 fun v209 =>
 some ((.int .i64 (-1)),r208.2.2),
 j8 1 r208.2.1 fun v211 =>
 some ((v211 0),r208.2.2)]]:=(j6 vb _ _ _ rfl).trans (by kernel_rfl)
theorem aa5 (a0 a1:V) (H:VH):cv I2 [a0,a1] H =
 (ajP 0 [a0,a1] fun x3 =>
  some (x3,H)):=(j6 vb _ _ _ rfl).trans (by kernel_rfl)
theorem Z3 (a0 a1:V) (H:VH):cv B5 [a0,a1] H =
 (qc F9 [(j7 H (strip a0)),(j7 H a1)]).bind fun x3 =>
 (a8 (.int .i64) .geq x3 (.int .i64 0)).bind fun x4 =>
 some (x4,H):=(j6 vb _ _ _ rfl).trans (by kernel_rfl)
noncomputable def C4:List V->VH->Option (Option Nat × List V × VH):=A3 (vb.ctx cv n7) (vb.b.E9 169) (vb.A7 169) ⟨⟨[0,1,7,8],[],[]⟩,[(.exit 0,⟨[],[],[]⟩),(.ret,⟨[4],[],[]⟩)]⟩ (A2 Tryz.f169 2)
theorem L4 (v0 v1 v2 v3:V) (H:VH):C4 [v0,v1,v2,v3] H =
 (a8 (.int .i64) .lss v3 v2).bind fun x4 =>
 j5 x4 (
 (G5 1 (strip v0) v3).bind fun x10 =>
 (H5 C5 false false 1 x10 H).bind fun r12 =>
 (afr v1).bind fun p14 =>
 (qc p14.1 ((([r12.1]:List V)++p14.2).map (j7 r12.2))).bind fun x13 =>
 j5 x13 (
 some (some 1,[(strip v3)],r12.2)) (
 (a8 (.int .i64) .add (strip v3) (.int .i64 1)).bind fun x17 =>
 some (none,[v0,(strip v1),v2,x17],r12.2))) (
 some (some 0,[],H)):=by kernel_rfl
theorem aas (a0 a1:V) (H:VH):cv F9 [a0,a1] H =
 (I1 (strip a0)).bind fun x2 =>
 (n7 C4 [a0,a1,x2,(.int .i64 0)] H).bind fun r19 =>
 y5 r19.1 [
 j8 0 r19.2.1 fun v20 =>
 some ((.int .i64 (-1)),r19.2.2),
 j8 1 r19.2.1 fun v22 =>
 some ((v22 0),r19.2.2)]:=(j6 vb _ _ _ rfl).trans (by kernel_rfl)
theorem aiL (a0:V) (H:VH):cv V3 [a0] H =
 (qc U3 [(j7 H a0)]).bind fun x2 =>
 (D6 .not x2).bind fun x3 =>
 some (x3,H):=(j6 vb _ _ _ rfl).trans (by kernel_rfl)
theorem aiH (a0:V) (H:VH):cv U3 [a0] H =
 (o6 a0).bind fun x2 =>
 (a8 (.int .i64) .geq x2 (.int .i64 1)).bind fun x3 =>
 l3 x3 (
 (o6 (strip a0)).bind fun x6 =>
 (a8 (.int .i64) .leq x6 (.int .i64 40)).bind fun x7 =>
 l3 x7 (
 (qc X4 [(j7 H (strip (strip a0))),(j7 H (.fn N7 []))]).bind fun x11 =>
 some (x11,H)) (
 some ((.bool false),H))) (
 some ((.bool false),H)):=(j6 vb _ _ _ rfl).trans (by kernel_rfl)
noncomputable def Y7:List V->VH->Option (Option Nat × List V × VH):=A3 (vb.ctx cv n7) (vb.b.E9 170) (vb.A7 170) ⟨⟨[0,1,7,8],[],[]⟩,[(.exit 0,⟨[],[],[]⟩),(.ret,⟨[4],[],[]⟩)]⟩ (A2 Tryz.f170 2)
theorem aci (v0 v1 v2 v3:V) (H:VH):Y7 [v0,v1,v2,v3] H =
 (a8 (.int .i64) .lss v3 v2).bind fun x4 =>
 j5 x4 (
 (l4 v0 v3).bind fun x10 =>
 (afr v1).bind fun p12 =>
 (qc p12.1 ((([x10]:List V)++p12.2).map (j7 H))).bind fun x11 =>
 (D6 .not x11).bind fun x13 =>
 j5 x13 (
 some (some 1,[(.bool false)],H)) (
 (a8 (.int .i64) .add (strip v3) (.int .i64 1)).bind fun x15 =>
 some (none,[(strip v0),(strip v1),v2,x15],H))) (
 some (some 0,[],H)):=by kernel_rfl
theorem ajE (a0 a1:V) (H:VH):cv X4 [a0,a1] H =
 (o6 a0).bind fun x2 =>
 (n7 Y7 [(strip a0),a1,x2,(.int .i64 0)] H).bind fun r17 =>
 y5 r17.1 [
 j8 0 r17.2.1 fun v18 =>
 some ((.bool true),r17.2.2),
 j8 1 r17.2.1 fun v20 =>
 some ((v20 0),r17.2.2)]:=(j6 vb _ _ _ rfl).trans (by kernel_rfl)
theorem ahe (a0:V) (H:VH):cv N7 [a0] H =
 (qc abz [(j7 H a0)]).bind fun x2 =>
 l3 x2 (
 some ((.bool true),H)) (
 (qc S8 [(j7 H (strip a0))]).bind fun x27 =>
 l3 x27 (
 some ((.bool true),H)) (
 (a8 (.int .u8) .eql (strip (strip a0)) (.int .u8 33)).bind fun x51 =>
 l3 x51 (
 some ((.bool true),H)) (
 (a8 (.int .u8) .geq (strip (strip (strip a0))) (.int .u8 35)).bind fun x73 =>
 l3 x73 (
 (a8 (.int .u8) .leq (strip (strip (strip (strip a0)))) (.int .u8 39)).bind fun x76 =>
 l3 x76 (
 some ((.bool true),H)) (
 (a8 (.int .u8) .eql (strip (strip (strip (strip (strip a0))))) (.int .u8 42)).bind fun x97 =>
 l3 x97 (
 some ((.bool true),H)) (
 (a8 (.int .u8) .eql (strip (strip (strip (strip (strip (strip a0)))))) (.int .u8 43)).bind fun x115 =>
 l3 x115 (
 some ((.bool true),H)) (
 (a8 (.int .u8) .eql (strip (strip (strip (strip (strip (strip (strip a0))))))) (.int .u8 45)).bind fun x131 =>
 l3 x131 (
 some ((.bool true),H)) (
 (a8 (.int .u8) .eql (strip (strip (strip (strip (strip (strip (strip (strip a0)))))))) (.int .u8 47)).bind fun x145 =>
 l3 x145 (
 some ((.bool true),H)) (
 (a8 (.int .u8) .eql (strip (strip (strip (strip (strip (strip (strip (strip (strip a0))))))))) (.int .u8 61)).bind fun x157 =>
 l3 x157 (
 some ((.bool true),H)) (
 (a8 (.int .u8) .eql (strip (strip (strip (strip (strip (strip (strip (strip (strip (strip a0)))))))))) (.int .u8 63)).bind fun x167 =>
 l3 x167 (
 some ((.bool true),H)) (
 (a8 (.int .u8) .geq (strip (strip (strip (strip (strip (strip (strip (strip (strip (strip (strip a0))))))))))) (.int .u8 94)).bind fun x175 =>
 l3 x175 (
 (a8 (.int .u8) .leq (strip (strip (strip (strip (strip (strip (strip (strip (strip (strip (strip (strip a0)))))))))))) (.int .u8 96)).bind fun x178 =>
 l3 x178 (
 some ((.bool true),H)) (
 (a8 (.int .u8) .geq (strip (strip (strip (strip (strip (strip (strip (strip (strip (strip (strip (strip (strip a0))))))))))))) (.int .u8 123)).bind fun x185 =>
 l3 x185 (
 (a8 (.int .u8) .leq (strip (strip (strip (strip (strip (strip (strip (strip (strip (strip (strip (strip (strip (strip a0)))))))))))))) (.int .u8 126)).bind fun x188 =>
 some (x188,H)) (
 some ((.bool false),H)))) (
 (a8 (.int .u8) .geq (strip (strip (strip (strip (strip (strip (strip (strip (strip (strip (strip (strip a0)))))))))))) (.int .u8 123)).bind fun x199 =>
 l3 x199 (
 (a8 (.int .u8) .leq (strip (strip (strip (strip (strip (strip (strip (strip (strip (strip (strip (strip (strip a0))))))))))))) (.int .u8 126)).bind fun x202 =>
 some (x202,H)) (
 some ((.bool false),H))))))))))) (
 (a8 (.int .u8) .eql (strip (strip (strip (strip a0)))) (.int .u8 42)).bind fun x213 =>
 l3 x213 (
 some ((.bool true),H)) (
 (a8 (.int .u8) .eql (strip (strip (strip (strip (strip a0))))) (.int .u8 43)).bind fun x231 =>
 l3 x231 (
 some ((.bool true),H)) (
 (a8 (.int .u8) .eql (strip (strip (strip (strip (strip (strip a0)))))) (.int .u8 45)).bind fun x247 =>
 l3 x247 (
 some ((.bool true),H)) (
 (a8 (.int .u8) .eql (strip (strip (strip (strip (strip (strip (strip a0))))))) (.int .u8 47)).bind fun x261 =>
 l3 x261 (
 some ((.bool true),H)) (
 (a8 (.int .u8) .eql (strip (strip (strip (strip (strip (strip (strip (strip a0)))))))) (.int .u8 61)).bind fun x273 =>
 l3 x273 (
 some ((.bool true),H)) (
 (a8 (.int .u8) .eql (strip (strip (strip (strip (strip (strip (strip (strip (strip a0))))))))) (.int .u8 63)).bind fun x283 =>
 l3 x283 (
 some ((.bool true),H)) (
 (a8 (.int .u8) .geq (strip (strip (strip (strip (strip (strip (strip (strip (strip (strip a0)))))))))) (.int .u8 94)).bind fun x291 =>
 l3 x291 (
 (a8 (.int .u8) .leq (strip (strip (strip (strip (strip (strip (strip (strip (strip (strip (strip a0))))))))))) (.int .u8 96)).bind fun x294 =>
 l3 x294 (
 some ((.bool true),H)) (
 (a8 (.int .u8) .geq (strip (strip (strip (strip (strip (strip (strip (strip (strip (strip (strip (strip a0)))))))))))) (.int .u8 123)).bind fun x301 =>
 l3 x301 (
 (a8 (.int .u8) .leq (strip (strip (strip (strip (strip (strip (strip (strip (strip (strip (strip (strip (strip a0))))))))))))) (.int .u8 126)).bind fun x304 =>
 some (x304,H)) (
 some ((.bool false),H)))) (
 (a8 (.int .u8) .geq (strip (strip (strip (strip (strip (strip (strip (strip (strip (strip (strip a0))))))))))) (.int .u8 123)).bind fun x315 =>
 l3 x315 (
 (a8 (.int .u8) .leq (strip (strip (strip (strip (strip (strip (strip (strip (strip (strip (strip (strip a0)))))))))))) (.int .u8 126)).bind fun x318 =>
 some (x318,H)) (
 some ((.bool false),H))))))))))))):=(j6 vb _ _ _ rfl).trans (by kernel_rfl)
theorem ajq (a0:V) (H:VH):cv abz [a0] H =
 (a8 (.int .u8) .geq a0 (.int .u8 97)).bind fun x2 =>
 l3 x2 (
 (a8 (.int .u8) .leq (strip a0) (.int .u8 122)).bind fun x5 =>
 l3 x5 (
 some ((.bool true),H)) (
 (a8 (.int .u8) .geq (strip (strip a0)) (.int .u8 65)).bind fun x11 =>
 l3 x11 (
 (a8 (.int .u8) .leq (strip (strip (strip a0))) (.int .u8 90)).bind fun x14 =>
 some (x14,H)) (
 some ((.bool false),H)))) (
 (a8 (.int .u8) .geq (strip a0) (.int .u8 65)).bind fun x24 =>
 l3 x24 (
 (a8 (.int .u8) .leq (strip (strip a0)) (.int .u8 90)).bind fun x27 =>
 some (x27,H)) (
 some ((.bool false),H))):=(j6 vb _ _ _ rfl).trans (by kernel_rfl)
theorem akA (a0:V) (H:VH):cv S8 [a0] H =
 (a8 (.int .u8) .geq a0 (.int .u8 48)).bind fun x2 =>
 l3 x2 (
 (a8 (.int .u8) .leq (strip a0) (.int .u8 57)).bind fun x5 =>
 some (x5,H)) (
 some ((.bool false),H)):=(j6 vb _ _ _ rfl).trans (by kernel_rfl)
theorem ajg (a0:V) (H:VH):cv abu [a0] H =
 (o6 a0).bind fun x2 =>
 (a8 (.int .i64) .leq x2 (.int .i64 40)).bind fun x3 =>
 l3 x3 (
 (pc M9 [(j7 H (strip a0)),(j7 H (.str [46]))]).bind fun x6 =>
 (qc B5 [(j7 H x6),(j7 H (.fn T3 []))]).bind fun x7 =>
 (D6 .not x7).bind fun x8 =>
 some (x8,H)) (
 some ((.bool false),H)):=(j6 vb _ _ _ rfl).trans (by kernel_rfl)
theorem ahl (a0:V) (H:VH):cv T3 [a0] H =
 (qc abH [(j7 H a0)]).bind fun x2 =>
 (D6 .not x2).bind fun x3 =>
 some (x3,H):=(j6 vb _ _ _ rfl).trans (by kernel_rfl)
theorem akJ (a0:V) (H:VH):cv abH [a0] H =
 (a8 .str .neq a0 (.str [])).bind fun x2 =>
 l3 x2 (
 (l4 (strip a0) (.int .i64 0)).bind fun x5 =>
 (a8 (.int .u8) .neq x5 (.int .u8 45)).bind fun x6 =>
 l3 x6 (
 (o6 (strip (strip (strip a0)))).bind fun x11 =>
 (a8 (.int .i64) .sub x11 (.int .i64 1)).bind fun x12 =>
 (l4 (strip (strip a0)) x12).bind fun x13 =>
 (a8 (.int .u8) .neq x13 (.int .u8 45)).bind fun x14 =>
 l3 x14 (
 (qc X4 [(j7 H (strip (strip (strip (strip a0))))),(j7 H (.fn U2 []))]).bind fun x18 =>
 some (x18,H)) (
 some ((.bool false),H))) (
 some ((.bool false),H))) (
 some ((.bool false),H)):=(j6 vb _ _ _ rfl).trans (by kernel_rfl)
theorem aiT (a0:V) (H:VH):cv U2 [a0] H =
 (a8 (.int .u8) .geq a0 (.int .u8 97)).bind fun x2 =>
 l3 x2 (
 (a8 (.int .u8) .leq (strip a0) (.int .u8 122)).bind fun x5 =>
 l3 x5 (
 some ((.bool true),H)) (
 (qc S8 [(j7 H (strip (strip a0)))]).bind fun x13 =>
 l3 x13 (
 some ((.bool true),H)) (
 (a8 (.int .u8) .eql (strip (strip (strip a0))) (.int .u8 45)).bind fun x19 =>
 some (x19,H)))) (
 (qc S8 [(j7 H (strip a0))]).bind fun x25 =>
 l3 x25 (
 some ((.bool true),H)) (
 (a8 (.int .u8) .eql (strip (strip a0)) (.int .u8 45)).bind fun x31 =>
 some (x31,H))):=(j6 vb _ _ _ rfl).trans (by kernel_rfl)
noncomputable def aap:List V->VH->Option (Option Nat × List V × VH):=A3 (vb.ctx cv n7) (vb.b.E9 75) (vb.A7 75) ⟨⟨[0,4,5,10],[],[]⟩,[(.exit 3,⟨[0,4,5,10],[],[]⟩)]⟩ (A2 Tryz.f75 7)
noncomputable def adh:List V->VH->Option (Option Nat × List V × VH):=A3 (vb.ctx cv n7) (vb.b.E9 75) (vb.A7 75) ⟨⟨[0,4,5,6],[],[]⟩,[(.exit 0,⟨[4],[],[]⟩),(.ret,⟨[2,3],[],[]⟩)]⟩ (A2 Tryz.f75 5)
theorem afz (v0 v1 v2 v3:V) (H:VH):aap [v0,v1,v2,v3] H =
 (id (
 (o6 v0).bind fun x65 =>
 (a8 (.int .i64) .lss v3 x65).bind fun x66 =>
 l3 x66 (
 (l4 (strip v0) (strip v3)).bind fun x70 =>
 (qc N7 [(j7 H x70)]).bind fun x71 =>
 j5 x71 (
 some (0,[(strip (strip v0)),v1,v2,(strip (strip v3))],H)) (
 some (1,[(strip (strip v0)),v1,v2,(strip (strip v3))],H))) (
 some (1,[(strip v0),v1,v2,(strip v3)],H)):Option (Nat × List V × VH))).bind fun r74 =>
 y5 r74.1 [
 j8 4 r74.2.1 fun v75 =>
 (a8 (.int .i64) .add (v75 3) (.int .i64 1)).bind fun x77 =>
 some (none,[(v75 0),(v75 1),(v75 2),x77],r74.2.2),
 j8 4 r74.2.1 fun v79 =>
 some (some 0,[(v79 0),(v79 1),(v79 2),(v79 3)],r74.2.2)]:=by kernel_rfl
theorem afp (v0 v1 v2 v3:V) (H:VH):adh [v0,v1,v2,v3] H =
 (o6 v0).bind fun x13 =>
 (a8 (.int .i64) .lss v2 x13).bind fun x14 =>
 j5 x14 (
 (l4 (strip v0) (strip v2)).bind fun x17 =>
 (a8 (.int .u8) .eql x17 (.int .u8 32)).bind fun x18 =>
 j5 x18 (
 (a8 (.int .i64) .add (strip (strip v2)) (.int .i64 1)).bind fun x21 =>
 some (none,[(strip (strip v0)),v1,x21,(.bool true)],H)) (
 (D6 .not v3).bind fun x25 =>
 j5 x25 (
 some (some 1,[(.sl true []),(.bool false)],H)) (
 (l4 (strip (strip v0)) (strip (strip v2))).bind fun x31 =>
 (a8 (.int .u8) .eql x31 (.int .u8 34)).bind fun x32 =>
 j5 x32 (
 (w4 (strip (strip (strip v0))) (some (strip (strip (strip v2)))) none).bind fun x36 =>
 (qc V7 [(j7 H x36)]).bind fun x37 =>
 (p8 x37 0).bind fun x39 =>
 (p8 x37 1).bind fun x40 =>
 (p8 x37 2).bind fun x41 =>
 (D6 .not (strip x41)).bind fun x46 =>
 j5 x46 (
 some (some 1,[(.sl true []),(.bool false)],H)) (
 (A6 (strip x39)).bind fun y52 =>
 (abC v1).bind fun s54 =>
 (L7 false 1 16 s54 (.sl true [[y52]])).bind fun x53 =>
 (a8 (.int .i64) .add (strip (strip (strip (strip v2)))) (strip x40)).bind fun x57 =>
 some (none,[(strip (strip (strip (strip v0)))),x53,x57,(.bool false)],H))) (
 (n7 aap [(strip (strip (strip v0))),v1,(strip (strip (strip (strip v2)))),(strip (strip (strip v2)))] H).bind fun r80 =>
 y5 r80.1 [
 j8 4 r80.2.1 fun v81 =>
 (a8 (.int .i64) .eql (v81 3) (v81 2)).bind fun x84 =>
 j5 x84 (
 some (some 1,[(.sl true []),(.bool false)],r80.2.2)) (
 (w4 (v81 0) (some (strip (v81 2))) (some (strip (v81 3)))).bind fun x91 =>
 (A6 x91).bind fun y93 =>
 (abC (v81 1)).bind fun s95 =>
 (L7 false 1 16 s95 (.sl true [[y93]])).bind fun x94 =>
 some (none,[(strip (v81 0)),x94,(strip (strip (v81 3))),(.bool false)],r80.2.2))])))) (
 some (some 0,[v1],H)):=by kernel_rfl
theorem ag1 (a0:V) (H:VH):cv T4 [a0] H =
 (qc L2 [(j7 H a0)]).bind fun x3 =>
 (D6 .not x3).bind fun x4 =>
 j5 x4 (
 some ((.o7 [(.sl true []),(.bool false)]),H)) (
 (n7 adh [(strip a0),(.sl true []),(.int .i64 0),(.bool true)] H).bind fun r100 =>
 y5 r100.1 [
 j8 1 r100.2.1 fun v101 =>
 some ((.o7 [(v101 0),(.bool true)]),r100.2.2),
 j8 2 r100.2.1 fun v105 =>
 some ((.o7 [(v105 0),(v105 1)]),r100.2.2)]):=(j6 vb _ _ _ rfl).trans (by kernel_rfl)
theorem agc (a0 a1:V) (H:VH):cv X3 [a0,a1] H =
 (qc I3 [(j7 H a0),(j7 H a1)]).bind fun x4 =>
 (p8 x4 0).bind fun x5 =>
 (p8 x4 1).bind fun x6 =>
 some ((.o7 [(strip x5),(strip x6)]),H):=(j6 vb _ _ _ rfl).trans (by kernel_rfl)
theorem aba (a0 a1:V) (H:VH):cv I3 [a0,a1] H =
 (qc H7 [(j7 H a0),(j7 H a1)]).bind fun x4 =>
 (D6 .not x4).bind fun x5 =>
 j5 x5 (
 some ((.o7 [(strip a0),(.bool false)]),H)) (
 (o6 (strip (strip a0))).bind fun x11 =>
 (o6 (strip a1)).bind fun x13 =>
 (a8 (.int .i64) .sub x11 x13).bind fun x14 =>
 (w4 (strip a0) none (some x14)).bind fun x15 =>
 some ((.o7 [x15,(.bool true)]),H)):=(j6 vb _ _ _ rfl).trans (by kernel_rfl)
theorem aa9 (a0 a1:V) (H:VH):cv H7 [a0,a1] H =
 (o6 a0).bind fun x2 =>
 (o6 a1).bind fun x4 =>
 (a8 (.int .i64) .geq x2 x4).bind fun x5 =>
 l3 x5 (
 (o6 (strip (strip a0))).bind fun x9 =>
 (o6 (strip a1)).bind fun x11 =>
 (a8 (.int .i64) .sub x9 x11).bind fun x12 =>
 (w4 (strip a0) (some x12) none).bind fun x13 =>
 (a8 .str .eql x13 (strip (strip a1))).bind fun x15 =>
 some (x15,H)) (
 some ((.bool false),H)):=(j6 vb _ _ _ rfl).trans (by kernel_rfl)
theorem agJ (a0:V) (H:VH):cv P6 [a0] H =
 (qc O8 [(j7 H a0)]).bind fun x3 =>
 (D6 .not x3).bind fun x4 =>
 j5 x4 (
 some ((.o7 [(.agg [(.str []),(.str []),(.str [])]),(.bool false)]),H)) (
 (qc aaT [(j7 H (strip a0))]).bind fun x9 =>
 (qc O5 [(j7 H x9),(j7 H (.int .u8 60))]).bind fun x10 =>
 (p8 x10 0).bind fun x12 =>
 (p8 x10 1).bind fun x13 =>
 (p8 x10 2).bind fun x14 =>
 (D6 .not (strip x14)).bind fun x19 =>
 j5 x19 (
 (pc abq [(j7 H (strip x12))]).bind fun x21 =>
 (p8 x21 0).bind fun x23 =>
 (p8 x21 1).bind fun x24 =>
 (F6 3 (strip x23)).bind fun c27 =>
 (D6 .not (strip x24)).bind fun x30 =>
 j5 x30 (
 some ((.o7 [(.agg [(.str []),(.str []),(.str [])]),(.bool false)]),H)) (
 some ((.o7 [(.agg [(strip (c27.getD 0 .b7)),(strip (c27.getD 1 .b7)),(strip (c27.getD 2 .b7))]),(.bool true)]),H))) (
 (id (
 (a8 .str .eql (strip x13) (.str [])).bind fun x38 =>
 l3 x38 (
 some (0,[(.bool false),(.str []),(.str []),(.str [])],H)) (
 (o6 (strip (strip (strip x13)))).bind fun x46 =>
 (a8 (.int .i64) .sub x46 (.int .i64 1)).bind fun x47 =>
 (l4 (strip (strip x13)) x47).bind fun x48 =>
 (a8 (.int .u8) .neq x48 (.int .u8 62)).bind fun x49 =>
 j5 x49 (
 some (0,[(.bool false),(.str []),(.str []),(.str [])],H)) (
 some (1,[(strip x12),(strip (strip (strip (strip x13)))),(.str []),(.str []),(.str [])],H))):Option (Nat × List V × VH))).bind fun r54 =>
 y5 r54.1 [
 j8 4 r54.2.1 fun v55 =>
 some ((.o7 [(.agg [(v55 1),(v55 2),(v55 3)]),(v55 0)]),r54.2.2),
 j8 5 r54.2.1 fun v56 =>
 (pc Z8 [(j7 r54.2.2 (v56 0))]).bind fun x58 =>
 (p8 x58 0).bind fun x60 =>
 (p8 x58 1).bind fun x61 =>
 (o6 (strip (v56 1))).bind fun x66 =>
 (a8 (.int .i64) .sub x66 (.int .i64 1)).bind fun x67 =>
 (w4 (v56 1) none (some x67)).bind fun x68 =>
 (pc abq [(j7 r54.2.2 x68)]).bind fun x69 =>
 (p8 x69 0).bind fun x71 =>
 (p8 x69 1).bind fun x72 =>
 (F6 3 (strip x71)).bind fun c75 =>
 (qc T0 [(j7 r54.2.2 (strip (strip (strip x60))))]).bind fun x78 =>
 (A6 x78).bind fun y81 =>
 (id (
 (D6 .not (strip x61)).bind fun x83 =>
 l3 x83 (
 some (0,[(.bool false),(.str []),(.str []),(.str [])],r54.2.2)) (
 (D6 .not (strip x72)).bind fun x92 =>
 l3 x92 (
 some (0,[(.bool false),(.str []),(.str []),(.str [])],r54.2.2)) (
 (qc J7 [(j7 r54.2.2 (.agg [(strip y81),(strip (c75.getD 1 .b7)),(strip (c75.getD 2 .b7))]))]).bind fun x100 =>
 (D6 .not x100).bind fun x101 =>
 j5 x101 (
 some (0,[(.bool false),(.str []),(.str []),(.str [])],r54.2.2)) (
 some (1,[(v56 2),(v56 3),(v56 4),y81,(c75.getD 1 .b7),(c75.getD 2 .b7)],r54.2.2)))):Option (Nat × List V × VH))).bind fun r106 =>
 y5 r106.1 [
 j8 4 r106.2.1 fun v107 =>
 some ((.o7 [(.agg [(v107 1),(v107 2),(v107 3)]),(v107 0)]),r106.2.2),
 j8 6 r106.2.1 fun v108 =>
 some ((.o7 [(.agg [(strip (v108 3)),(strip (v108 4)),(strip (v108 5))]),(.bool true)]),r106.2.2)]])):=(j6 vb _ _ _ rfl).trans (by kernel_rfl)
noncomputable def afH:List V->VH->Option (Option Nat × List V × VH):=A3 (vb.ctx cv n7) (vb.b.E9 79) (vb.A7 79) ⟨⟨[0],[],[]⟩,[(.exit 0,⟨[0],[],[]⟩)]⟩ (A2 Tryz.f79 1)
noncomputable def afy:List V->VH->Option (Option Nat × List V × VH):=A3 (vb.ctx cv n7) (vb.b.E9 79) (vb.A7 79) ⟨⟨[0],[],[]⟩,[(.exit 2,⟨[0],[],[]⟩)]⟩ (A2 Tryz.f79 3)
theorem aiD (v0:V) (H:VH):afH [v0] H =
 (id (
 (o6 v0).bind fun x2 =>
 (a8 (.int .i64) .gtr x2 (.int .i64 0)).bind fun x3 =>
 l3 x3 (
 (l4 (strip v0) (.int .i64 0)).bind fun x6 =>
 (a8 (.int .u8) .eql x6 (.int .u8 32)).bind fun x7 =>
 j5 x7 (
 some (0,[(strip (strip v0))],H)) (
 some (1,[(strip (strip v0))],H))) (
 some (1,[(strip v0)],H)):Option (Nat × List V × VH))).bind fun r10 =>
 y5 r10.1 [
 j8 1 r10.2.1 fun v11 =>
 (w4 (v11 0) (some (.int .i64 1)) none).bind fun x13 =>
 some (none,[x13],r10.2.2),
 j8 1 r10.2.1 fun v15 =>
 some (some 0,[(v15 0)],r10.2.2)]:=by kernel_rfl
theorem aiA (v0:V) (H:VH):afy [v0] H =
 (id (
 (o6 v0).bind fun x19 =>
 (a8 (.int .i64) .gtr x19 (.int .i64 0)).bind fun x20 =>
 l3 x20 (
 (o6 (strip (strip v0))).bind fun x24 =>
 (a8 (.int .i64) .sub x24 (.int .i64 1)).bind fun x25 =>
 (l4 (strip v0) x25).bind fun x26 =>
 (a8 (.int .u8) .eql x26 (.int .u8 32)).bind fun x27 =>
 j5 x27 (
 some (0,[(strip (strip (strip v0)))],H)) (
 some (1,[(strip (strip (strip v0)))],H))) (
 some (1,[(strip v0)],H)):Option (Nat × List V × VH))).bind fun r30 =>
 y5 r30.1 [
 j8 1 r30.2.1 fun v31 =>
 (o6 (strip (v31 0))).bind fun x34 =>
 (a8 (.int .i64) .sub x34 (.int .i64 1)).bind fun x35 =>
 (w4 (v31 0) none (some x35)).bind fun x36 =>
 some (none,[x36],r30.2.2),
 j8 1 r30.2.1 fun v38 =>
 some (some 0,[(v38 0)],r30.2.2)]:=by kernel_rfl
theorem alO (a0:V) (H:VH):cv aaT [a0] H =
 (n7 afH [a0] H).bind fun r16 =>
 y5 r16.1 [
 j8 1 r16.2.1 fun v17 =>
 (n7 afy [(v17 0)] r16.2.2).bind fun r39 =>
 y5 r39.1 [
 j8 1 r39.2.1 fun v40 =>
 some ((v40 0),r39.2.2)]]:=(j6 vb _ _ _ rfl).trans (by kernel_rfl)
noncomputable def agT:List V->VH->Option (Option Nat × List V × VH):=A3 (vb.ctx cv n7) (vb.b.E9 78) (vb.A7 78) ⟨⟨[0,1,7],[],[]⟩,[(.exit 0,⟨[0],[],[]⟩),(.ret,⟨[4,5,6],[],[]⟩)]⟩ (A2 Tryz.f78 2)
theorem ajC (v0 v1 v2:V) (H:VH):agT [v0,v1,v2] H =
 (o6 v0).bind fun x6 =>
 (a8 (.int .i64) .lss v2 x6).bind fun x7 =>
 j5 x7 (
 (l4 (strip v0) (strip v2)).bind fun x10 =>
 (a8 (.int .u8) .eql x10 (.int .u8 34)).bind fun x11 =>
 j5 x11 (
 (qc W9 [(j7 H (strip (strip v0))),(j7 H (strip (strip v2)))]).bind fun x14 =>
 (p8 x14 0).bind fun x16 =>
 (p8 x14 1).bind fun x17 =>
 (a8 (.int .i64) .lss (strip x17) (.int .i64 0)).bind fun x21 =>
 j5 x21 (
 some (some 1,[(strip (strip (strip v0))),(.str []),(.bool false)],H)) (
 some (none,[(strip (strip (strip v0))),v1,(strip (strip x17))],H))) (
 (l4 (strip (strip v0)) (strip (strip v2))).bind fun x30 =>
 (a8 (.int .u8) .eql x30 v1).bind fun x32 =>
 j5 x32 (
 (w4 (strip (strip (strip v0))) none (some (strip (strip (strip v2))))).bind fun x35 =>
 (a8 (.int .i64) .add (strip (strip (strip (strip v2)))) (.int .i64 1)).bind fun x38 =>
 (w4 (strip (strip (strip (strip v0)))) (some x38) none).bind fun x39 =>
 some (some 1,[x35,x39,(.bool true)],H)) (
 (a8 (.int .i64) .add (strip (strip (strip v2))) (.int .i64 1)).bind fun x44 =>
 some (none,[(strip (strip (strip v0))),(strip v1),x44],H)))) (
 some (some 0,[(strip v0)],H)):=by kernel_rfl
theorem amT (a0 a1:V) (H:VH):cv O5 [a0,a1] H =
 (n7 agT [a0,a1,(.int .i64 0)] H).bind fun r46 =>
 y5 r46.1 [
 j8 1 r46.2.1 fun v47 =>
 some ((.o7 [(v47 0),(.str []),(.bool false)]),r46.2.2),
 j8 3 r46.2.1 fun v52 =>
 some ((.o7 [(v52 0),(v52 1),(v52 2)]),r46.2.2)]:=(j6 vb _ _ _ rfl).trans (by kernel_rfl)
noncomputable def afl:List V->VH->Option (Option Nat × List V × VH):=A3 (vb.ctx cv n7) (vb.b.E9 151) (vb.A7 151) ⟨⟨[0,6,7],[],[]⟩,[(.exit 0,⟨[],[],[]⟩),(.ret,⟨[4,5],[],[]⟩)]⟩ (A2 Tryz.f151 3)
theorem aiM (v0 v1 v2:V) (H:VH):afl [v0,v1,v2] H =
 (o6 v0).bind fun x8 =>
 (a8 (.int .i64) .lss v2 x8).bind fun x9 =>
 j5 x9 (
 (id (
 (l4 (strip v0) (strip v2)).bind fun x12 =>
 (a8 (.int .u8) .eql x12 (.int .u8 34)).bind fun x13 =>
 j5 x13 (
 (a8 (.int .i64) .add (strip (strip v2)) (.int .i64 1)).bind fun x16 =>
 some (0,[v1,x16],H)) (
 (id (
 (l4 (strip (strip v0)) (strip (strip v2))).bind fun x21 =>
 (a8 (.int .u8) .eql x21 (.int .u8 92)).bind fun x22 =>
 j5 x22 (
 (a8 (.int .i64) .add (strip (strip (strip v2))) (.int .i64 1)).bind fun x24 =>
 (o6 (strip (strip (strip v0)))).bind fun x28 =>
 (a8 (.int .i64) .eql x24 x28).bind fun x29 =>
 j5 x29 (
 some (0,[(.str []),(.int .i64 (-1))],H)) (
 some (1,[(strip (strip (strip (strip v0)))),v1,(strip x24)],H))) (
 some (1,[(strip (strip (strip v0))),v1,(strip (strip (strip v2)))],H)):Option (Nat × List V × VH))).bind fun r32 =>
 y5 r32.1 [
 j8 2 r32.2.1 fun v33 =>
 some (0,[(v33 0),(v33 1)],r32.2.2),
 j8 3 r32.2.1 fun v34 =>
 (a8 (.int .i64) .add (strip (v34 2)) (.int .i64 1)).bind fun x39 =>
 (w4 (v34 0) (some (v34 2)) (some x39)).bind fun x40 =>
 (a8 .str .add (v34 1) x40).bind fun x41 =>
 some (1,[(strip (v34 0)),x41,(strip (strip (v34 2)))],r32.2.2)]):Option (Nat × List V × VH))).bind fun r43 =>
 y5 r43.1 [
 j8 2 r43.2.1 fun v44 =>
 some (some 1,[(v44 0),(v44 1)],r43.2.2),
 j8 3 r43.2.1 fun v45 =>
 (a8 (.int .i64) .add (v45 2) (.int .i64 1)).bind fun x47 =>
 some (none,[(v45 0),(v45 1),x47],r43.2.2)]) (
 some (some 0,[],H)):=by kernel_rfl
theorem al3 (a0 a1:V) (H:VH):cv W9 [a0,a1] H =
 (a8 (.int .i64) .add a1 (.int .i64 1)).bind fun x4 =>
 (n7 afl [a0,(.str []),x4] H).bind fun r49 =>
 y5 r49.1 [
 j8 0 r49.2.1 fun v50 =>
 some ((.o7 [(.str []),(.int .i64 (-1))]),r49.2.2),
 j8 2 r49.2.1 fun v53 =>
 some ((.o7 [(v53 0),(v53 1)]),r49.2.2)]:=(j6 vb _ _ _ rfl).trans (by kernel_rfl)
theorem amP (a0:V) (H:VH):cv abq [a0] H =
 (qc O5 [(j7 H a0),(j7 H (.int .u8 64))]).bind fun x3 =>
 (p8 x3 0).bind fun x5 =>
 (p8 x3 1).bind fun x6 =>
 (p8 x3 2).bind fun x7 =>
 (qc V0 [(j7 H (strip x6))]).bind fun x13 =>
 (A6 (strip x5)).bind fun y15 =>
 (A6 x13).bind fun y16 =>
 l3 (strip x7) (
 (qc J7 [(j7 H (.agg [(.str []),(strip y15),(strip y16)]))]).bind fun x23 =>
 some ((.o7 [(.agg [(.str []),(strip y15),(strip y16)]),x23]),H)) (
 some ((.o7 [(.agg [(.str []),(strip y15),(strip y16)]),(.bool false)]),H)):=(j6 vb _ _ _ rfl).trans (by kernel_rfl)
noncomputable def adr:List V->VH->Option (Option Nat × List V × VH):=A3 (vb.ctx cv n7) (vb.b.E9 90) (vb.A7 90) ⟨⟨[3,4],[],[]⟩,[(.exit 0,⟨[3],[],[]⟩)]⟩ (A2 Tryz.f90 3)
theorem af8 (v0 v1:V) (H:VH):adr [v0,v1] H =
 (I1 (strip v0)).bind fun x7 =>
 (a8 (.int .i64) .lss v1 x7).bind fun x8 =>
 j5 x8 (
 (id (
 (G5 1 (strip v0) (strip v1)).bind fun x11 =>
 (H5 C5 false false 1 x11 H).bind fun r13 =>
 (a8 (.int .u8) .geq r13.1 (.int .u8 65)).bind fun x14 =>
 l3 x14 (
 (G5 1 (strip v0) (strip (strip v1))).bind fun x18 =>
 (H5 C5 false false 1 x18 r13.2).bind fun r20 =>
 (a8 (.int .u8) .leq r20.1 (.int .u8 90)).bind fun x21 =>
 j5 x21 (
 (G5 1 (strip v0) (strip (strip (strip (strip v1))))).bind fun x27 =>
 (H5 C5 false false 1 x27 r20.2).bind fun r29 =>
 (a8 (.int .u8) .add r29.1 (.int .u8 32)).bind fun x30 =>
 (G5 1 (strip v0) (strip (strip (strip v1)))).bind fun x31 =>
 (A6 x30).bind fun y33 =>
 (stO x31 [y33] r29.2).bind fun H34 =>
 some (0,[v0,(strip (strip (strip (strip (strip v1)))))],H34)) (
 some (0,[v0,(strip (strip (strip v1)))],r20.2))) (
 some (0,[v0,(strip (strip v1))],r13.2)):Option (Nat × List V × VH))).bind fun r36 =>
 y5 r36.1 [
 j8 2 r36.2.1 fun v37 =>
 (a8 (.int .i64) .add (v37 1) (.int .i64 1)).bind fun x39 =>
 some (none,[(v37 0),x39],r36.2.2)]) (
 some (some 0,[v0],H)):=by kernel_rfl
theorem aiN (a0:V) (H:VH):cv V0 [a0] H =
 (ans a0).bind fun x2 =>
 (n7 adr [(.z8 H.length 0 x2.length 1),(.int .i64 0)] (H++[x2])).bind fun r41 =>
 y5 r41.1 [
 j8 1 r41.2.1 fun v42 =>
 (aao (strip (v42 0)) r41.2.2).bind fun x44 =>
 some (x44,r41.2.2)]:=(j6 vb _ _ _ rfl).trans (by kernel_rfl)
noncomputable def abx:List V->VH->Option (Option Nat × List V × VH):=A3 (vb.ctx cv n7) (vb.b.E9 81) (vb.A7 81) ⟨⟨[0,4,5,6],[],[]⟩,[(.exit 2,⟨[0,4,5,6],[],[]⟩)]⟩ (A2 Tryz.f81 12)
noncomputable def aeX:List V->VH->Option (Option Nat × List V × VH):=A3 (vb.ctx cv n7) (vb.b.E9 81) (vb.A7 81) ⟨⟨[0,4,5],[],[]⟩,[(.exit 0,⟨[4],[],[]⟩),(.ret,⟨[2,3],[],[]⟩)]⟩ (A2 Tryz.f81 3)
theorem agY (v0 v1 v2 v3:V) (H:VH):abx [v0,v1,v2,v3] H =
 (id (
 (o6 v0).bind fun x38 =>
 (a8 (.int .i64) .lss v2 x38).bind fun x39 =>
 l3 x39 (
 (l4 (strip v0) (strip v2)).bind fun x43 =>
 (qc aaU [(j7 H x43)]).bind fun x44 =>
 j5 x44 (
 some (0,[(strip (strip v0)),v1,(strip (strip v2)),v3],H)) (
 some (1,[(strip (strip v0)),v1,(strip (strip v2)),v3],H))) (
 some (1,[(strip v0),v1,(strip v2),v3],H)):Option (Nat × List V × VH))).bind fun r47 =>
 y5 r47.1 [
 j8 4 r47.2.1 fun v48 =>
 (a8 (.int .i64) .add (v48 2) (.int .i64 1)).bind fun x50 =>
 some (none,[(v48 0),(v48 1),x50,(v48 3)],r47.2.2),
 j8 4 r47.2.1 fun v52 =>
 some (some 0,[(v52 0),(v52 1),(v52 2),(v52 3)],r47.2.2)]:=by kernel_rfl
theorem ahB (v0 v1 v2:V) (H:VH):aeX [v0,v1,v2] H =
 (o6 v0).bind fun x7 =>
 (a8 (.int .i64) .lss v2 x7).bind fun x8 =>
 j5 x8 (
 (l4 (strip v0) (strip v2)).bind fun x11 =>
 (a8 (.int .u8) .eql x11 (.int .u8 32)).bind fun x12 =>
 j5 x12 (
 (a8 (.int .i64) .add (strip (strip v2)) (.int .i64 1)).bind fun x14 =>
 some (none,[(strip (strip v0)),v1,x14],H)) (
 (id (
 (l4 (strip (strip v0)) (strip (strip (strip v2)))).bind fun x21 =>
 (a8 (.int .u8) .eql x21 (.int .u8 34)).bind fun x22 =>
 j5 x22 (
 (qc W9 [(j7 H (strip (strip (strip v0)))),(j7 H (strip (strip (strip (strip v2)))))]).bind fun x25 =>
 (p8 x25 0).bind fun x27 =>
 (p8 x25 1).bind fun x28 =>
 (a8 (.int .i64) .lss (strip x28) (.int .i64 0)).bind fun x32 =>
 j5 x32 (
 some (0,[(.sl true []),(.bool false)],H)) (
 some (1,[(strip (strip (strip (strip v0)))),v1,(strip (strip x28)),(strip (strip v2)),(strip x27)],H))) (
 (n7 abx [(strip (strip (strip v0))),v1,(strip (strip (strip (strip v2)))),(strip (strip v2))] H).bind fun r53 =>
 y5 r53.1 [
 j8 4 r53.2.1 fun v54 =>
 (w4 (v54 0) (some (v54 3)) (some (v54 2))).bind fun x58 =>
 some (1,[(strip (v54 0)),(v54 1),(strip (v54 2)),(strip (v54 3)),x58],r53.2.2)]):Option (Nat × List V × VH))).bind fun r60 =>
 y5 r60.1 [
 j8 2 r60.2.1 fun v61 =>
 some (some 1,[(v61 0),(v61 1)],r60.2.2),
 j8 5 r60.2.1 fun v62 =>
 (id (
 (a8 (.int .i64) .eql (v62 2) (v62 3)).bind fun x65 =>
 l3 x65 (
 some (0,[(.sl true []),(.bool false)],r60.2.2)) (
 (o6 (v62 0)).bind fun x73 =>
 (a8 (.int .i64) .lss (strip (v62 2)) x73).bind fun x74 =>
 l3 x74 (
 (l4 (strip (v62 0)) (strip (strip (v62 2)))).bind fun x78 =>
 (a8 (.int .u8) .neq x78 (.int .u8 32)).bind fun x79 =>
 j5 x79 (
 some (0,[(.sl true []),(.bool false)],r60.2.2)) (
 some (1,[(strip (strip (v62 0))),(v62 1),(strip (strip (strip (v62 2)))),(v62 4)],r60.2.2))) (
 some (1,[(strip (v62 0)),(v62 1),(strip (strip (v62 2))),(v62 4)],r60.2.2))):Option (Nat × List V × VH))).bind fun r87 =>
 y5 r87.1 [
 j8 2 r87.2.1 fun v88 =>
 some (some 1,[(v88 0),(v88 1)],r87.2.2),
 j8 4 r87.2.1 fun v89 =>
 (A6 (v89 3)).bind fun y93 =>
 (abC (v89 1)).bind fun s95 =>
 (L7 false 1 16 s95 (.sl true [[y93]])).bind fun x94 =>
 some (none,[(v89 0),x94,(v89 2)],r87.2.2)]])) (
 some (some 0,[v1],H)):=by kernel_rfl
theorem aj9 (a0:V) (H:VH):cv Z8 [a0] H =
 (n7 aeX [a0,(.sl true []),(.int .i64 0)] H).bind fun r97 =>
 y5 r97.1 [
 j8 1 r97.2.1 fun v98 =>
 some ((.o7 [(v98 0),(.bool true)]),r97.2.2),
 j8 2 r97.2.1 fun v102 =>
 some ((.o7 [(v102 0),(v102 1)]),r97.2.2)]:=(j6 vb _ _ _ rfl).trans (by kernel_rfl)
noncomputable def aeI:List V->VH->Option (Option Nat × List V × VH):=A3 (vb.ctx cv n7) (vb.b.E9 82) (vb.A7 82) ⟨⟨[0,3,4],[],[]⟩,[(.exit 0,⟨[3],[],[]⟩)]⟩ (A2 Tryz.f82 3)
theorem aho (v0 v1 v2:V) (H:VH):aeI [v0,v1,v2] H =
 (I1 (strip v0)).bind fun x5 =>
 (a8 (.int .i64) .lss v2 x5).bind fun x6 =>
 j5 x6 (
 (id (
 (id (
 (a8 (.int .i64) .gtr (strip v2) (.int .i64 0)).bind fun x8 =>
 j5 x8 (
 (a8 .str .add v1 (.str [32])).bind fun x10 =>
 some (0,[v0,x10,(strip (strip v2))],H)) (
 some (0,[v0,v1,(strip (strip v2))],H)):Option (Nat × List V × VH))).bind fun r12 =>
 y5 r12.1 [
 j8 3 r12.2.1 fun v13 =>
 (G5 1 (strip (v13 0)) (v13 2)).bind fun x17 =>
 (H5 C5 false false 1 x17 r12.2.2).bind fun r19 =>
 (a8 .str .add (v13 1) r19.1).bind fun x20 =>
 some (0,[(v13 0),x20,(strip (v13 2))],r19.2)]:Option (Nat × List V × VH))).bind fun r22 =>
 y5 r22.1 [
 j8 3 r22.2.1 fun v23 =>
 (a8 (.int .i64) .add (v23 2) (.int .i64 1)).bind fun x25 =>
 some (none,[(v23 0),(v23 1),x25],r22.2.2)]) (
 some (some 0,[v1],H)):=by kernel_rfl
theorem ak7 (a0:V) (H:VH):cv T0 [a0] H =
 (n7 aeI [a0,(.str []),(.int .i64 0)] H).bind fun r27 =>
 y5 r27.1 [
 j8 1 r27.2.1 fun v28 =>
 some ((v28 0),r27.2.2)]:=(j6 vb _ _ _ rfl).trans (by kernel_rfl)
noncomputable def adq:List V->VH->Option (Option Nat × List V × VH):=A3 (vb.ctx cv n7) (vb.b.E9 19) (vb.A7 19) ⟨⟨[3,4,12,13,14],[],[]⟩,[(.exit 0,⟨[4],[],[]⟩),(.ret,⟨[2],[],[]⟩)]⟩ (A2 Tryz.f19 5)
theorem af9 (v0 v1 v2 v3 v4:V) (H:VH):adq [v0,v1,v2,v3,v4] H =
 (a8 (.int .i64) .lss v4 v3).bind fun x15 =>
 j5 x15 (
 (G5 1 v2 (strip v4)).bind fun x17 =>
 (H5 C5 false false 1 x17 H).bind fun r19 =>
 (a8 .str .eql r19.1 (.str [])).bind fun x23 =>
 j5 x23 (
 (a8 (.int .i64) .add (strip v4) (.int .i64 1)).bind fun x24 =>
 some (none,[v0,v1,v2,v3,x24],r19.2)) (
 (id (
 (a8 (.int .i64) .geq v4 (.int .i64 200)).bind fun x27 =>
 l3 x27 (
 (a8 .str .add v1 (.str [102,117,108,108,10])).bind fun x31 =>
 some (0,[x31],r19.2)) (
 (o6 v1).bind fun x34 =>
 (a8 (.int .i64) .gtr x34 (.int .i64 40000)).bind fun x35 =>
 j5 x35 (
 (a8 .str .add (strip v1) (.str [102,117,108,108,10])).bind fun x38 =>
 some (0,[x38],r19.2)) (
 some (1,[v0,(strip v1),(strip r19.1),v2,v3,(strip v4)],r19.2))):Option (Nat × List V × VH))).bind fun r40 =>
 y5 r40.1 [
 j8 1 r40.2.1 fun v41 =>
 some (some 1,[(v41 0)],r40.2.2),
 j8 6 r40.2.1 fun v42 =>
 (cv U8 [(strip (v42 0)),(strip (v42 2))] r40.2.2).bind fun r46 =>
 (a8 .str .add (v42 1) r46.1).bind fun x47 =>
 (a8 (.int .i64) .add (v42 5) (.int .i64 1)).bind fun x49 =>
 some (none,[(v42 0),x47,(v42 3),(v42 4),x49],r46.2)])) (
 some (some 0,[v1],H)):=by kernel_rfl
theorem aiP (a0:V) (H:VH):cv G8 [a0] H =
 (o6 a0).bind fun x2 =>
 (a8 (.int .i64) .gtr x2 (.int .i64 20000)).bind fun x3 =>
 j5 x3 (
 some ((.str [108,111,110,103,10]),H)) (
 (pc ab6 []).bind fun x5 =>
 (F6 14 x5).bind fun c8 =>
 (stO (.ptr H.length 0) [(c8.getD 0 .b7),(c8.getD 1 .b7),(c8.getD 2 .b7),(c8.getD 3 .b7),(c8.getD 4 .b7),(c8.getD 5 .b7),(c8.getD 6 .b7),(c8.getD 7 .b7),(c8.getD 8 .b7),(c8.getD 9 .b7),(c8.getD 10 .b7),(c8.getD 11 .b7),(c8.getD 12 .b7),(c8.getD 13 .b7)] (H++[[(.sl true []),(.int .i64 0),(.str []),(.str []),(.sl true []),(.sl true []),(.sl true []),(.int .i64 0),(.int .i64 0),(.int .i64 0),(.int .i64 0),(.int .i64 0),(.int .i64 0),(.int .i64 0)]])).bind fun H9 =>
 (pc M9 [(j7 H9 (strip a0)),(j7 H9 (.str [10]))]).bind fun x12 =>
 (I1 x12).bind fun x13 =>
 (n7 adq [(.ptr H.length 0),(.str []),x12,x13,(.int .i64 0)] H9).bind fun r51 =>
 y5 r51.1 [
 j8 1 r51.2.1 fun v52 =>
 some ((v52 0),r51.2.2),
 j8 1 r51.2.1 fun v55 =>
 some ((v55 0),r51.2.2)]):=(j6 vb _ _ _ rfl).trans (by kernel_rfl)
theorem akB (H:VH):cv ab6 [] H =
 (pc aaG [(j7 H (.int .i64 1767593289)),(j7 H (.int .i64 60))]).bind fun x1 =>
 (p8 x1 0).bind fun x3 =>
 (p8 x1 1).bind fun x4 =>
 (F6 7 (strip x3)).bind fun c7 =>
 some ((.agg [(.sl true []),(.int .i64 0),(.str []),(.str []),(.sl true []),(.sl true []),(.sl true []),(strip (c7.getD 0 .b7)),(strip (c7.getD 1 .b7)),(strip (c7.getD 2 .b7)),(strip (c7.getD 3 .b7)),(strip (c7.getD 4 .b7)),(strip (c7.getD 5 .b7)),(strip (c7.getD 6 .b7))]),H):=(j6 vb _ _ _ rfl).trans (by kernel_rfl)
noncomputable def afR:List V->VH->Option (Option Nat × List V × VH):=A3 (vb.ctx cv n7) (vb.b.E9 126) (vb.A7 126) ⟨⟨[7],[(4,(4,0)),(9,(9,0))],[(4,7),(9,7)]⟩,[(.exit 0,⟨[7],[(4,(4,0)),(9,(9,0))],[(4,7),(9,7)]⟩)]⟩ (A2 Tryz.f126 8)
theorem aiw (v0 v1 v2 v3 v4 v5 v6 v7 v8 v9 v10 v11 v12 v13 v14:V) (H:VH):afR [v0,v1,v2,v3,v4,v5,v6,v7,v8,v9,v10,v11,v12,v13,v14] H =
 (id (
 (a8 (.int .i64) .leq (strip v8) (.int .i64 2099)).bind fun x53 =>
 l3 x53 (
 (qc Q1 [(j7 H (strip v8)),(j7 H (strip v9))]).bind fun x60 =>
 (a8 (.int .i64) .geq v0 x60).bind fun x61 =>
 j5 x61 (
 some (0,[(strip v0),v1,v2,v3,v4,v5,v6,v7,v8,v9,v10,v11,v12,v13,v14],H)) (
 some (1,[(strip v0),v1,v2,v3,v4,v5,v6,v7,v8,v9,v10,v11,v12,v13,v14],H))) (
 some (1,[v0,v1,v2,v3,v4,v5,v6,v7,v8,v9,v10,v11,v12,v13,v14],H)):Option (Nat × List V × VH))).bind fun r64 =>
 y5 r64.1 [
 j8 15 r64.2.1 fun v65 =>
 (qc Q1 [(j7 r64.2.2 (strip (v65 8))),(j7 r64.2.2 (strip (v65 9)))]).bind fun x71 =>
 (a8 (.int .i64) .sub (v65 0) x71).bind fun x72 =>
 (a8 (.int .i64) .add (strip (v65 9)) (.int .i64 1)).bind fun x76 =>
 (A6 x76).bind fun y79 =>
 (a8 (.int .i64) .gtr (strip y79) (.int .i64 12)).bind fun x82 =>
 j5 x82 (
 (a8 (.int .i64) .add (strip (v65 8)) (.int .i64 1)).bind fun x85 =>
 (A6 x85).bind fun y88 =>
 some (none,[x72,(v65 1),(v65 2),(v65 3),(v65 4),(v65 5),(v65 6),(v65 7),y88,(.int .i64 1),(v65 10),(v65 11),(v65 12),(v65 13),(v65 14)],r64.2.2)) (
 some (none,[x72,(v65 1),(v65 2),(v65 3),(v65 4),(v65 5),(v65 6),(v65 7),(v65 8),y79,(v65 10),(v65 11),(v65 12),(v65 13),(v65 14)],r64.2.2)),
 j8 15 r64.2.1 fun v91 =>
 some (some 0,[(v91 0),(v91 1),(v91 2),(v91 3),(v91 4),(v91 5),(v91 6),(v91 7),(v91 8),(v91 9),(v91 10),(v91 11),(v91 12),(v91 13),(v91 14)],r64.2.2)]:=by kernel_rfl
theorem al9 (a0 a1:V) (H:VH):cv aaG [a0,a1] H =
 (id (
 (qc F1 [(j7 H a0),(j7 H (.int .i64 0)),(j7 H (.int .i64 4102444799))]).bind fun x3 =>
 (D6 .not x3).bind fun x4 =>
 l3 x4 (
 some (0,[(.bool false),(.int .i64 0),(.int .i64 0),(.int .i64 0),(.int .i64 0),(.int .i64 0),(.int .i64 0),(.int .i64 0)],H)) (
 (qc aaD [(j7 H a1)]).bind fun x11 =>
 (D6 .not x11).bind fun x12 =>
 j5 x12 (
 some (0,[(.bool false),(.int .i64 0),(.int .i64 0),(.int .i64 0),(.int .i64 0),(.int .i64 0),(.int .i64 0),(.int .i64 0)],H)) (
 some (1,[(strip a0),(strip a1),(.int .i64 0),(.int .i64 0),(.int .i64 0),(.int .i64 0),(.int .i64 0),(.int .i64 0),(.int .i64 0)],H))):Option (Nat × List V × VH))).bind fun r17 =>
 y5 r17.1 [
 j8 8 r17.2.1 fun v18 =>
 some ((.o7 [(.agg [(v18 1),(v18 2),(v18 3),(v18 4),(v18 5),(v18 6),(v18 7)]),(v18 0)]),r17.2.2),
 j8 9 r17.2.1 fun v19 =>
 (a8 (.int .i64) .mul (v19 1) (.int .i64 60)).bind fun x22 =>
 (a8 (.int .i64) .add (v19 0) x22).bind fun x23 =>
 (a8 (.int .i64) .lss x23 (.int .i64 0)).bind fun x26 =>
 j5 x26 (
 some ((.o7 [(.agg [(.int .i64 0),(.int .i64 0),(.int .i64 0),(.int .i64 0),(.int .i64 0),(.int .i64 0),(.int .i64 0)]),(.bool false)]),r17.2.2)) (
 (a8 (.int .i64) .quo (strip x23) (.int .i64 86400)).bind fun x31 =>
 (a8 (.int .i64) .rem (strip (strip x23)) (.int .i64 86400)).bind fun x33 =>
 (a8 (.int .i64) .quo x33 (.int .i64 3600)).bind fun x37 =>
 (a8 (.int .i64) .quo (strip x33) (.int .i64 60)).bind fun x39 =>
 (a8 (.int .i64) .rem x39 (.int .i64 60)).bind fun x40 =>
 (a8 (.int .i64) .rem (strip (strip x33)) (.int .i64 60)).bind fun x42 =>
 (A6 x37).bind fun y45 =>
 (A6 x40).bind fun y46 =>
 (A6 x42).bind fun y47 =>
 (A6 (strip (v19 1))).bind fun y48 =>
 (n7 afR [x31,(v19 2),(v19 3),(v19 4),(v19 5),(v19 6),(v19 7),(v19 8),(.int .i64 1970),(.int .i64 1),(.int .i64 0),y45,y46,y47,y48] r17.2.2).bind fun r92 =>
 y5 r92.1 [
 j8 15 r92.2.1 fun v93 =>
 (a8 (.int .i64) .add (v93 0) (.int .i64 1)).bind fun x95 =>
 (A6 x95).bind fun y98 =>
 (qc U6 [(j7 r92.2.2 (.agg [(strip (v93 8)),(strip (v93 9)),(strip y98),(strip (v93 11)),(strip (v93 12)),(strip (v93 13)),(strip (v93 14))]))]).bind fun x100 =>
 (D6 .not x100).bind fun x101 =>
 j5 x101 (
 some ((.o7 [(.agg [(.int .i64 0),(.int .i64 0),(.int .i64 0),(.int .i64 0),(.int .i64 0),(.int .i64 0),(.int .i64 0)]),(.bool false)]),r92.2.2)) (
 some ((.o7 [(.agg [(strip (v93 8)),(strip (v93 9)),(strip y98),(strip (v93 11)),(strip (v93 12)),(strip (v93 13)),(strip (v93 14))]),(.bool true)]),r92.2.2))])]:=(j6 vb _ _ _ rfl).trans (by kernel_rfl)
theorem alm (a0 a1 a2:V) (H:VH):cv F1 [a0,a1,a2] H =
 (a8 (.int .i64) .geq a0 a1).bind fun x3 =>
 l3 x3 (
 (a8 (.int .i64) .leq (strip a0) a2).bind fun x7 =>
 some (x7,H)) (
 some ((.bool false),H)):=(j6 vb _ _ _ rfl).trans (by kernel_rfl)
theorem alL (a0:V) (H:VH):cv aaD [a0] H =
 (qc F1 [(j7 H a0),(j7 H (.int .i64 (-720))),(j7 H (.int .i64 840))]).bind fun x2 =>
 some (x2,H):=(j6 vb _ _ _ rfl).trans (by kernel_rfl)
theorem alG (a0 a1:V) (H:VH):cv Q1 [a0,a1] H =
 (id (
 (a8 (.int .i64) .lss a0 (.int .i64 1970)).bind fun x2 =>
 l3 x2 (
 some (0,[(.int .i64 0)],H)) (
 (a8 (.int .i64) .gtr (strip a0) (.int .i64 2099)).bind fun x7 =>
 j5 x7 (
 some (0,[(.int .i64 0)],H)) (
 some (1,[(strip (strip a0)),a1],H))):Option (Nat × List V × VH))).bind fun r10 =>
 y5 r10.1 [
 j8 1 r10.2.1 fun v11 =>
 some ((v11 0),r10.2.2),
 j8 2 r10.2.1 fun v12 =>
 (id (
 (a8 (.int .i64) .eql (v12 1) (.int .i64 1)).bind fun x14 =>
 j5 x14 (
 some (0,[(v12 0),(v12 1),x14],r10.2.2)) (
 (a8 (.int .i64) .eql (v12 1) (.int .i64 3)).bind fun x16 =>
 j5 x16 (
 some (0,[(v12 0),(v12 1),x16],r10.2.2)) (
 (a8 (.int .i64) .eql (v12 1) (.int .i64 5)).bind fun x18 =>
 j5 x18 (
 some (0,[(v12 0),(v12 1),x18],r10.2.2)) (
 (a8 (.int .i64) .eql (v12 1) (.int .i64 7)).bind fun x20 =>
 j5 x20 (
 some (0,[(v12 0),(v12 1),x20],r10.2.2)) (
 (a8 (.int .i64) .eql (v12 1) (.int .i64 8)).bind fun x22 =>
 j5 x22 (
 some (0,[(v12 0),(v12 1),x22],r10.2.2)) (
 (a8 (.int .i64) .eql (v12 1) (.int .i64 10)).bind fun x24 =>
 j5 x24 (
 some (0,[(v12 0),(v12 1),x24],r10.2.2)) (
 (a8 (.int .i64) .eql (v12 1) (.int .i64 12)).bind fun x26 =>
 some (0,[(v12 0),(v12 1),x26],r10.2.2))))))):Option (Nat × List V × VH))).bind fun r28 =>
 y5 r28.1 [
 j8 3 r28.2.1 fun v29 =>
 j5 (v29 2) (
 some ((.int .i64 31),r28.2.2)) (
 (id (
 (a8 (.int .i64) .eql (v29 1) (.int .i64 4)).bind fun x31 =>
 j5 x31 (
 some (0,[(v29 0),(v29 1),x31],r28.2.2)) (
 (a8 (.int .i64) .eql (v29 1) (.int .i64 6)).bind fun x33 =>
 j5 x33 (
 some (0,[(v29 0),(v29 1),x33],r28.2.2)) (
 (a8 (.int .i64) .eql (v29 1) (.int .i64 9)).bind fun x35 =>
 j5 x35 (
 some (0,[(v29 0),(v29 1),x35],r28.2.2)) (
 (a8 (.int .i64) .eql (v29 1) (.int .i64 11)).bind fun x37 =>
 some (0,[(v29 0),(v29 1),x37],r28.2.2)))):Option (Nat × List V × VH))).bind fun r39 =>
 y5 r39.1 [
 j8 3 r39.2.1 fun v40 =>
 j5 (v40 2) (
 some ((.int .i64 30),r39.2.2)) (
 (a8 (.int .i64) .eql (v40 1) (.int .i64 2)).bind fun x42 =>
 j5 x42 (
 (a8 (.int .i64) .rem (v40 0) (.int .i64 4)).bind fun x45 =>
 (a8 (.int .i64) .eql x45 (.int .i64 0)).bind fun x46 =>
 l3 x46 (
 (a8 (.int .i64) .rem (strip (v40 0)) (.int .i64 100)).bind fun x49 =>
 (a8 (.int .i64) .neq x49 (.int .i64 0)).bind fun x50 =>
 l3 x50 (
 some ((.int .i64 29),r39.2.2)) (
 (a8 (.int .i64) .rem (strip (strip (v40 0))) (.int .i64 400)).bind fun x56 =>
 (a8 (.int .i64) .eql x56 (.int .i64 0)).bind fun x57 =>
 j5 x57 (
 some ((.int .i64 29),r39.2.2)) (
 some ((.int .i64 28),r39.2.2)))) (
 (a8 (.int .i64) .rem (strip (v40 0)) (.int .i64 400)).bind fun x64 =>
 (a8 (.int .i64) .eql x64 (.int .i64 0)).bind fun x65 =>
 j5 x65 (
 some ((.int .i64 29),r39.2.2)) (
 some ((.int .i64 28),r39.2.2)))) (
 some ((.int .i64 0),r39.2.2)))])]]:=(j6 vb _ _ _ rfl).trans (by kernel_rfl)
theorem aiF (a0:V) (H:VH):cv U6 [a0] H =
 (F6 7 a0).bind fun c1 =>
 (qc Q1 [(j7 H (strip (c1.getD 0 .b7))),(j7 H (strip (c1.getD 1 .b7)))]).bind fun x9 =>
 (qc F1 [(j7 H (strip (c1.getD 2 .b7))),(j7 H (.int .i64 1)),(j7 H x9)]).bind fun x10 =>
 l3 x10 (
 (qc F1 [(j7 H (strip (c1.getD 3 .b7))),(j7 H (.int .i64 0)),(j7 H (.int .i64 23))]).bind fun x14 =>
 l3 x14 (
 (qc F1 [(j7 H (strip (c1.getD 4 .b7))),(j7 H (.int .i64 0)),(j7 H (.int .i64 59))]).bind fun x19 =>
 l3 x19 (
 (qc F1 [(j7 H (strip (c1.getD 5 .b7))),(j7 H (.int .i64 0)),(j7 H (.int .i64 59))]).bind fun x24 =>
 l3 x24 (
 (qc aaD [(j7 H (strip (c1.getD 6 .b7)))]).bind fun x29 =>
 l3 x29 (
 (qc X8 [(j7 H (.agg [(strip (c1.getD 0 .b7)),(strip (c1.getD 1 .b7)),(strip (c1.getD 2 .b7)),(strip (c1.getD 3 .b7)),(strip (c1.getD 4 .b7)),(strip (c1.getD 5 .b7)),(strip (c1.getD 6 .b7))]))]).bind fun x33 =>
 (qc F1 [(j7 H x33),(j7 H (.int .i64 0)),(j7 H (.int .i64 4102444799))]).bind fun x34 =>
 some (x34,H)) (
 some ((.bool false),H))) (
 some ((.bool false),H))) (
 some ((.bool false),H))) (
 some ((.bool false),H))) (
 some ((.bool false),H)):=(j6 vb _ _ _ rfl).trans (by kernel_rfl)
theorem agq (a0:V) (H:VH):cv X8 [a0] H =
 (F6 7 a0).bind fun c1 =>
 (qc T1 [(j7 H (strip (c1.getD 0 .b7))),(j7 H (strip (c1.getD 1 .b7))),(j7 H (strip (c1.getD 2 .b7)))]).bind fun x9 =>
 (a8 (.int .i64) .mul x9 (.int .i64 86400)).bind fun x10 =>
 (a8 (.int .i64) .mul (strip (c1.getD 3 .b7)) (.int .i64 3600)).bind fun x13 =>
 (a8 (.int .i64) .add x10 x13).bind fun x14 =>
 (a8 (.int .i64) .mul (strip (c1.getD 4 .b7)) (.int .i64 60)).bind fun x17 =>
 (a8 (.int .i64) .add x14 x17).bind fun x18 =>
 (a8 (.int .i64) .add x18 (strip (c1.getD 5 .b7))).bind fun x21 =>
 (a8 (.int .i64) .mul (strip (c1.getD 6 .b7)) (.int .i64 60)).bind fun x24 =>
 (a8 (.int .i64) .sub x21 x24).bind fun x25 =>
 some (x25,H):=(j6 vb _ _ _ rfl).trans (by kernel_rfl)
noncomputable def aak:List V->VH->Option (Option Nat × List V × VH):=A3 (vb.ctx cv n7) (vb.b.E9 168) (vb.A7 168) ⟨⟨[0,1,7,8,9],[],[]⟩,[(.exit 2,⟨[0,1,7,8],[],[]⟩)]⟩ (A2 Tryz.f168 6)
noncomputable def ac4:List V->VH->Option (Option Nat × List V × VH):=A3 (vb.ctx cv n7) (vb.b.E9 168) (vb.A7 168) ⟨⟨[0,1,7,8],[],[]⟩,[(.exit 0,⟨[7],[],[]⟩)]⟩ (A2 Tryz.f168 3)
theorem afF (v0 v1 v2 v3 v4:V) (H:VH):aak [v0,v1,v2,v3,v4] H =
 (id (
 (a8 (.int .i64) .leq v4 (.int .i64 12)).bind fun x10 =>
 l3 x10 (
 (a8 (.int .i64) .lss v3 v0).bind fun x14 =>
 l3 x14 (
 some (0,[(strip v0),v1,v2,(strip v3),(strip v4)],H)) (
 (a8 (.int .i64) .lss (strip v4) v1).bind fun x20 =>
 j5 x20 (
 some (0,[(strip v0),(strip v1),v2,(strip v3),(strip (strip v4))],H)) (
 some (1,[(strip v0),(strip v1),v2,(strip v3)],H)))) (
 some (1,[v0,v1,v2,v3],H)):Option (Nat × List V × VH))).bind fun r24 =>
 y5 r24.1 [
 j8 5 r24.2.1 fun v25 =>
 (qc Q1 [(j7 r24.2.2 (v25 3)),(j7 r24.2.2 (v25 4))]).bind fun x29 =>
 (a8 (.int .i64) .add (v25 2) x29).bind fun x30 =>
 (a8 (.int .i64) .add (strip (v25 4)) (.int .i64 1)).bind fun x33 =>
 some (none,[(v25 0),(v25 1),x30,(strip (v25 3)),x33],r24.2.2),
 j8 4 r24.2.1 fun v35 =>
 some (some 0,[(v35 0),(v35 1),(v35 2),(v35 3)],r24.2.2)]:=by kernel_rfl
theorem afE (v0 v1 v2 v3:V) (H:VH):ac4 [v0,v1,v2,v3] H =
 (a8 (.int .i64) .leq v3 v0).bind fun x7 =>
 j5 x7 (
 (n7 aak [(strip v0),v1,v2,(strip v3),(.int .i64 1)] H).bind fun r36 =>
 y5 r36.1 [
 j8 4 r36.2.1 fun v37 =>
 (a8 (.int .i64) .add (v37 3) (.int .i64 1)).bind fun x39 =>
 some (none,[(v37 0),(v37 1),(v37 2),x39],r36.2.2)]) (
 some (some 0,[v2],H)):=by kernel_rfl
theorem ahS (a0 a1 a2:V) (H:VH):cv T1 [a0,a1,a2] H =
 (a8 (.int .i64) .sub a2 (.int .i64 1)).bind fun x2 =>
 (n7 ac4 [a0,a1,x2,(.int .i64 1970)] H).bind fun r41 =>
 y5 r41.1 [
 j8 1 r41.2.1 fun v42 =>
 some ((v42 0),r41.2.2)]:=(j6 vb _ _ _ rfl).trans (by kernel_rfl)
theorem aiE (a0 a1:V) (H:VH):cv U8 [a0,a1] H =
 (qc acx [(j7 H a1),(j7 H (.str [32]))]).bind fun x2 =>
 (p8 x2 0).bind fun x4 =>
 (p8 x2 1).bind fun x5 =>
 (p8 x2 2).bind fun x6 =>
 (D6 .not (strip x6)).bind fun x11 =>
 j5 x11 (
 (cv afm [(strip a0),(strip (strip x4))] H).bind fun r15 =>
 some (r15.1,r15.2)) (
 (a8 .str .eql (strip x4) (.str [115,97,121])).bind fun x18 =>
 j5 x18 (
 (cv af6 [(strip a0),(strip (strip x5))] H).bind fun r23 =>
 some (r23.1,r23.2)) (
 (a8 .str .eql (strip x4) (.str [98,111,120])).bind fun x25 =>
 j5 x25 (
 (P3 a0).bind fun x28 =>
 (N8 x28 0).bind fun x29 =>
 (H5 C5 false false 1 x29 H).bind fun r31 =>
 (pc als [(j7 r31.2 r31.1),(j7 r31.2 (strip x5))]).bind fun x33 =>
 (p8 x33 0).bind fun x35 =>
 (p8 (acv 0 x33) 1).bind fun x36 =>
 (D6 .not (strip x36)).bind fun x40 =>
 j5 x40 (
 some ((.str [119,104,97,116,10]),r31.2)) (
 (P3 (strip a0)).bind fun x44 =>
 (N8 x44 0).bind fun x45 =>
 (A6 x35).bind fun y47 =>
 (stO x45 [y47] r31.2).bind fun H48 =>
 some ((.str [111,107,10]),H48))) (
 (a8 .str .eql (strip x4) (.str [116,97,107,101])).bind fun x50 =>
 j5 x50 (
 (cv aiR [(strip a0),(strip (strip x5))] H).bind fun r55 =>
 some (r55.1,r55.2)) (
 (a8 .str .eql (strip x4) (.str [100,97,116,101])).bind fun x57 =>
 j5 x57 (
 (pc aiJ [(j7 H (strip x5))]).bind fun x60 =>
 (p8 x60 0).bind fun x62 =>
 (p8 x60 1).bind fun x63 =>
 (F6 7 (strip x62)).bind fun c66 =>
 (D6 .not (strip x63)).bind fun x69 =>
 j5 x69 (
 some ((.str [119,104,97,116,10]),H)) (
 (P3 a0).bind fun x73 =>
 (N8 x73 7).bind fun x74 =>
 (stO x74 [(strip (c66.getD 0 .b7)),(strip (c66.getD 1 .b7)),(strip (c66.getD 2 .b7)),(strip (c66.getD 3 .b7)),(strip (c66.getD 4 .b7)),(strip (c66.getD 5 .b7)),(strip (c66.getD 6 .b7))] H).bind fun H76 =>
 (qc ag3 [(j7 H76 (.agg [(strip (c66.getD 0 .b7)),(strip (c66.getD 1 .b7)),(strip (c66.getD 2 .b7)),(strip (c66.getD 3 .b7)),(strip (c66.getD 4 .b7)),(strip (c66.getD 5 .b7)),(strip (c66.getD 6 .b7))]))]).bind fun x78 =>
 (a8 .str .add x78 (.str [10])).bind fun x79 =>
 some (x79,H76))) (
 (qc I5 [(j7 H (strip (strip x4))),(j7 H (strip x5))]).bind fun x83 =>
 (p8 x83 0).bind fun x85 =>
 (p8 x83 1).bind fun x86 =>
 (D6 .not (strip x86)).bind fun x90 =>
 j5 x90 (
 some ((.str [119,104,97,116,10]),H)) (
 (a8 .str .add (.str [61,32]) (strip x85)).bind fun x93 =>
 (a8 .str .add x93 (.str [10])).bind fun x94 =>
 some (x94,H))))))):=(j6 vb _ _ _ rfl).trans (by kernel_rfl)
theorem amb (a0 a1:V) (H:VH):cv acx [a0,a1] H =
 (qc N5 [(j7 H a0),(j7 H a1)]).bind fun x5 =>
 (p8 x5 0).bind fun x6 =>
 (p8 x5 1).bind fun x7 =>
 (p8 x5 2).bind fun x8 =>
 some ((.o7 [(strip x6),(strip x7),(strip x8)]),H):=(j6 vb _ _ _ rfl).trans (by kernel_rfl)
theorem acX (a0 a1:V) (H:VH):cv N5 [a0,a1] H =
 (qc F7 [(j7 H a0),(j7 H a1)]).bind fun x5 =>
 (a8 (.int .i64) .geq x5 (.int .i64 0)).bind fun x8 =>
 j5 x8 (
 (w4 (strip a0) none (some (strip x5))).bind fun x11 =>
 (o6 (strip a1)).bind fun x15 =>
 (a8 (.int .i64) .add (strip (strip x5)) x15).bind fun x16 =>
 (w4 (strip (strip a0)) (some x16) none).bind fun x17 =>
 some ((.o7 [x11,x17,(.bool true)]),H)) (
 some ((.o7 [(strip a0),(.str []),(.bool false)]),H)):=(j6 vb _ _ _ rfl).trans (by kernel_rfl)
theorem aj4 (a0 a1:V) (H:VH):cv I5 [a0,a1] H =
 (a8 .str .eql a0 (.str [97,100,100,114,101,115,115])).bind fun x3 =>
 j5 x3 (
 (pc K9 [(j7 H a1)]).bind fun x6 =>
 (p8 x6 0).bind fun x8 =>
 (p8 x6 1).bind fun x9 =>
 (F6 3 (strip x8)).bind fun c12 =>
 (qc J0 [(j7 H (.agg [(strip (c12.getD 0 .b7)),(strip (c12.getD 1 .b7)),(strip (c12.getD 2 .b7))]))]).bind fun x15 =>
 some ((.o7 [x15,(strip x9)]),H)) (
 (a8 .str .eql a0 (.str [108,105,115,116])).bind fun x19 =>
 j5 x19 (
 (pc aiB [(j7 H a1)]).bind fun x22 =>
 (p8 x22 0).bind fun x24 =>
 (p8 x22 1).bind fun x25 =>
 (qc ahO [(j7 H (strip (strip (strip x24))))]).bind fun x29 =>
 l3 (strip x25) (
 (a8 .str .neq (strip x29) (.str [])).bind fun x35 =>
 l3 x35 (
 some ((.o7 [x29,(.bool true)]),H)) (
 (I1 (strip (strip (strip x24)))).bind fun x42 =>
 (a8 (.int .i64) .eql x42 (.int .i64 0)).bind fun x43 =>
 some ((.o7 [x29,x43]),H))) (
 some ((.o7 [x29,(.bool false)]),H))) (
 (a8 .str .eql a0 (.str [107,105,110,100])).bind fun x51 =>
 j5 x51 (
 (pc aiI [(j7 H a1)]).bind fun x54 =>
 (p8 x54 0).bind fun x56 =>
 (p8 x54 1).bind fun x57 =>
 (F6 3 (strip x56)).bind fun c60 =>
 (qc ahT [(j7 H (.agg [(strip (c60.getD 0 .b7)),(strip (c60.getD 1 .b7)),(strip (c60.getD 2 .b7))]))]).bind fun x63 =>
 some ((.o7 [x63,(strip x57)]),H)) (
 (a8 .str .eql a0 (.str [110,97,109,101])).bind fun x67 =>
 j5 x67 (
 (qc ahQ [(j7 H a1)]).bind fun x70 =>
 (p8 x70 0).bind fun x72 =>
 (p8 x70 1).bind fun x73 =>
 (qc ahu [(j7 H (strip x72))]).bind fun x77 =>
 (p8 x77 0).bind fun x79 =>
 (p8 x77 1).bind fun x80 =>
 l3 (strip x73) (
 some ((.o7 [(strip x79),(strip x80)]),H)) (
 some ((.o7 [(strip x79),(.bool false)]),H))) (
 some ((.o7 [(.str []),(.bool false)]),H))))):=(j6 vb _ _ _ rfl).trans (by kernel_rfl)
theorem afv (a0:V) (H:VH):cv J0 [a0] H =
 (F6 3 a0).bind fun c1 =>
 (qc P0 [(j7 H (.agg [(strip (c1.getD 0 .b7)),(strip (c1.getD 1 .b7)),(strip (c1.getD 2 .b7))]))]).bind fun x4 =>
 (D6 .not x4).bind fun x5 =>
 j5 x5 (
 some ((.str []),H)) (
 (a8 .str .eql (strip (c1.getD 0 .b7)) (.str [])).bind fun x10 =>
 j5 x10 (
 (a8 .str .add (strip (c1.getD 1 .b7)) (.str [64])).bind fun x14 =>
 (a8 .str .add x14 (strip (c1.getD 2 .b7))).bind fun x17 =>
 some (x17,H)) (
 (qc V5 [(j7 H (strip (c1.getD 0 .b7)))]).bind fun x21 =>
 (a8 .str .add x21 (.str [32,60])).bind fun x22 =>
 (a8 .str .add x22 (strip (c1.getD 1 .b7))).bind fun x25 =>
 (a8 .str .add x25 (.str [64])).bind fun x26 =>
 (a8 .str .add x26 (strip (c1.getD 2 .b7))).bind fun x29 =>
 (a8 .str .add x29 (.str [62])).bind fun x30 =>
 some (x30,H))):=(j6 vb _ _ _ rfl).trans (by kernel_rfl)
noncomputable def adp:List V->VH->Option (Option Nat × List V × VH):=A3 (vb.ctx cv n7) (vb.b.E9 83) (vb.A7 83) ⟨⟨[0,3,15,16],[],[]⟩,[(.exit 1,⟨[3],[],[]⟩)]⟩ (A2 Tryz.f83 7)
theorem agp (v0 v1 v2 v3:V) (H:VH):adp [v0,v1,v2,v3] H =
 (a8 (.int .i64) .lss v3 v2).bind fun x16 =>
 j5 x16 (
 (id (
 (l4 v0 v3).bind fun x21 =>
 (a8 (.int .u8) .eql x21 (.int .u8 34)).bind fun x22 =>
 l3 x22 (
 (abC v1).bind fun s28 =>
 (L7 false 1 1 s28 (.sl true [[(.int .u8 92)]])).bind fun x27 =>
 some (0,[(strip v0),x27,(strip v3),v2,(strip v3)],H)) (
 (l4 (strip v0) (strip v3)).bind fun x32 =>
 (a8 (.int .u8) .eql x32 (.int .u8 92)).bind fun x33 =>
 j5 x33 (
 (abC v1).bind fun s38 =>
 (L7 false 1 1 s38 (.sl true [[(.int .u8 92)]])).bind fun x37 =>
 some (0,[(strip (strip v0)),x37,(strip (strip v3)),v2,(strip v3)],H)) (
 some (0,[(strip (strip v0)),v1,(strip (strip v3)),v2,(strip v3)],H))):Option (Nat × List V × VH))).bind fun r40 =>
 y5 r40.1 [
 j8 5 r40.2.1 fun v41 =>
 (l4 (v41 0) (v41 2)).bind fun x45 =>
 (A6 x45).bind fun y47 =>
 (abC (v41 1)).bind fun s49 =>
 (L7 false 1 1 s49 (.sl true [[y47]])).bind fun x48 =>
 (a8 (.int .i64) .add (v41 4) (.int .i64 1)).bind fun x51 =>
 some (none,[(strip (v41 0)),x48,(v41 3),x51],r40.2.2)]) (
 some (some 0,[v1],H)):=by kernel_rfl
theorem aiO (a0:V) (H:VH):cv V5 [a0] H =
 (qc L2 [(j7 H a0)]).bind fun x2 =>
 (D6 .not x2).bind fun x3 =>
 j5 x3 (
 some ((.str []),H)) (
 (qc U3 [(j7 H (strip a0))]).bind fun x7 =>
 j5 x7 (
 some ((strip (strip a0)),H)) (
 (o6 (strip (strip a0))).bind fun x14 =>
 (n7 adp [(strip (strip (strip a0))),(.sl true [[(.int .u8 34)]]),x14,(.int .i64 0)] H).bind fun r53 =>
 y5 r53.1 [
 j8 1 r53.2.1 fun v54 =>
 (abC (v54 0)).bind fun s58 =>
 (L7 false 1 1 s58 (.sl true [[(.int .u8 34)]])).bind fun x57 =>
 (aao x57 r53.2.2).bind fun x59 =>
 some (x59,r53.2.2)])):=(j6 vb _ _ _ rfl).trans (by kernel_rfl)
end Go.Proofs.YtpbgpeojlfdpoaaGreatDoor.Q
