/- What a call of each function comes to. -/
import Derived.Test.YtmokcpfbeggigaaGreatDoorScriptNameBaseZ
namespace Go.Proofs.YtmokcpfbeggigaaGreatDoor.Q
open Go Go.AM Go.Proofs
set_option linter.unusedVariables false
set_option maxRecDepth 100000
theorem afh (a0:V) (H:VH):cv T8 [a0] H =
 (J7 (strip a0)).bind fun x2 =>
 (a8 (.int .i64) .gtr x2 (.int .i64 1048576)).bind fun x3 =>
 l3 x3 (
 some ((.bool true),H)) (
 (qc F3 [(l4 H a0)]).bind fun x6 =>
 (qc K5 [(l4 H x6)]).bind fun x9 =>
 (y4 x9 0).bind fun x11 =>
 (y4 x9 1).bind fun x12 =>
 (qc P3 [(l4 H (strip x6))]).bind fun x16 =>
 (y4 x16 0).bind fun x18 =>
 (y4 x16 1).bind fun x19 =>
 (id (
 (a8 .str .neq (strip x11) (strip x18)).bind fun x24 =>
 l9 x24 (
 (a8 .str .eql (strip (strip x11)) (strip (strip x18))).bind fun x33 =>
 l9 x33 (
 (a8 .bool .eql (strip x12) (strip x19)).bind fun x37 =>
 some (0,[x37],H)) (
 some (0,[(.bool false)],H))) (
 (a8 .bool .neq (strip x12) (strip x19)).bind fun x44 =>
 l9 x44 (
 (a8 .str .eql (strip (strip x11)) (strip (strip x18))).bind fun x52 =>
 l9 x52 (
 (a8 .bool .eql (strip (strip x12)) (strip (strip x19))).bind fun x56 =>
 some (0,[x56],H)) (
 some (0,[(.bool false)],H))) (
 (T3 .not (strip (strip x12))).bind fun x62 =>
 l9 x62 (
 (a8 .str .eql (strip (strip x11)) (strip (strip x18))).bind fun x68 =>
 l9 x68 (
 (a8 .bool .eql (strip (strip (strip x12))) (strip (strip x19))).bind fun x72 =>
 some (0,[x72],H)) (
 some (0,[(.bool false)],H))) (
 (a8 .str .eql (strip (strip x11)) (.str [])).bind fun x78 =>
 l3 x78 (
 (a8 .str .eql (strip (strip (strip x11))) (strip (strip x18))).bind fun x82 =>
 l9 x82 (
 (a8 .bool .eql (strip (strip (strip x12))) (strip (strip x19))).bind fun x86 =>
 some (0,[x86],H)) (
 some (0,[(.bool false)],H))) (
 some (1,[(strip (strip (strip x11)))],H))))):Option (Nat × List V × VH))).bind fun r91 =>
 A5 r91.1 [
 l5 1 r91.2.1 fun v92 =>
 some ((v92 0),r91.2.2),
 l5 1 r91.2.1 fun v93 =>
 (a8 .str .add (.str [110,97,109,101,32]) (v93 0)).bind fun x95 =>
 (a8 .str .add x95 (.str [10])).bind fun x96 =>
 (qc I4 [(l4 r91.2.2 x96)]).bind fun x97 =>
 (a8 .str .add (.str [61,32]) (strip (v93 0))).bind fun x99 =>
 (a8 .str .add x99 (.str [10])).bind fun x100 =>
 (a8 .str .eql x97 x100).bind fun x101 =>
 some (x101,r91.2.2)]):=(l6 vb _ _ _ rfl).trans (by kernel_rfl)
theorem adL (a0:V) (H:VH):cv F3 [a0] H =
 (cv V5 [a0] H).bind fun r3 =>
 (cv abt [(strip r3.1)] r3.2).bind fun r5 =>
 some (r5.1,r5.2):=(l6 vb _ _ _ rfl).trans (by kernel_rfl)
theorem aiF (a0:V) (H:VH):cv V5 [a0] H =
 (id (
 (J7 (strip a0)).bind fun x2 =>
 (a8 (.int .i64) .gtr x2 (.int .i64 2000)).bind fun x3 =>
 l3 x3 (
 (Q2 1 (strip a0) none (some (.int .i64 2000))).bind fun x5 =>
 some (0,[x5],H)) (
 some (0,[a0],H)):Option (Nat × List V × VH))).bind fun r7 =>
 A5 r7.1 [
 l5 1 r7.2.1 fun v8 =>
 (C3 (v8 0)).bind fun y11 =>
 some ((.ptr r7.2.2.length 0),(r7.2.2++[[y11,(.int .i64 0)]]))]:=(l6 vb _ _ _ rfl).trans (by kernel_rfl)
noncomputable def adW:List V->VH->Option (Option Nat × List V × VH):=E2 (vb.ctx cv p5) (vb.b.I8 18) (vb.D7 18) ⟨⟨[0,3,4],[],[]⟩,[(.exit 0,⟨[3],[],[]⟩)]⟩ (E5 Tryz.f18 3)
theorem aha (v0 v1 v2:V) (H:VH):adW [v0,v1,v2] H =
 (a8 (.int .i64) .gtr v2 (.int .i64 0)).bind fun x8 =>
 l3 x8 (
 (cv T5 [(strip v0),(.sl false (o7 [[(.str [90,111,195,171])],[(.str [32])],[(.str [65,110,110,32,76,101,101])],[(.str [61,63])],[(.str [97])],[(.str [95])],[(.str [97,32,108,111,110,103,101,114,32,110,97,109,101,32,111,102,32,109,97,110,121,32,119,111,114,100,115])],[(.str [255])],[(.str [61,63,117,116,102,45,56,63,113,63,120,63,61])],[(.str [32,32])]]))] H).bind fun r13 =>
 (a8 .str .add v1 r13.1).bind fun x14 =>
 (a8 (.int .i64) .sub (strip v2) (.int .i64 1)).bind fun x17 =>
 some (none,[(strip v0),x14,x17],r13.2)) (
 some (some 0,[v1],H)):=by kernel_rfl
theorem ako (a0:V) (H:VH):cv abt [a0] H =
 (cv R6 [(strip a0),(.sl false (o7 [[(.int .i64 2)],[(.int .i64 1)],[(.int .i64 3)],[(.int .i64 0)],[(.int .i64 6)]]))] H).bind fun r5 =>
 (p5 adW [(strip a0),(.str []),r5.1] r5.2).bind fun r19 =>
 A5 r19.1 [
 l5 1 r19.2.1 fun v20 =>
 some ((v20 0),r19.2.2)]:=(l6 vb _ _ _ rfl).trans (by kernel_rfl)
theorem ag6 (a0 a1:V) (H:VH):cv R6 [a0,a1] H =
 (J7 (strip a1)).bind fun x4 =>
 (cv O9 [(strip a0),(strip x4)] H).bind fun r6 =>
 (M0 1 (strip a1) r6.1).bind fun x7 =>
 (L8 I2 false false 1 x7 r6.2).bind fun r9 =>
 some (r9.1,r9.2):=(l6 vb _ _ _ rfl).trans (by kernel_rfl)
theorem agx (a0 a1:V) (H:VH):cv O9 [a0,a1] H =
 (M3 (strip a0)).bind fun x3 =>
 (L3 x3 1).bind fun x4 =>
 (L8 I2 false false 1 x4 H).bind fun r6 =>
 (a8 (.int .i64) .add r6.1 (.int .i64 1)).bind fun x7 =>
 (M3 a0).bind fun x8 =>
 (L3 x8 1).bind fun x9 =>
 (C3 x7).bind fun y11 =>
 (stO x9 [y11] r6.2).bind fun H12 =>
 (id (
 (a8 (.int .i64) .lss a1 (.int .i64 1)).bind fun x14 =>
 l9 x14 (
 some (0,[(.int .i64 0)],H12)) (
 (M3 (strip (strip a0))).bind fun x19 =>
 (L3 x19 0).bind fun x20 =>
 (L8 I2 false false 1 x20 H12).bind fun r22 =>
 (J7 r22.1).bind fun x23 =>
 (a8 (.int .i64) .eql x23 (.int .i64 0)).bind fun x24 =>
 l3 x24 (
 some (0,[(.int .i64 0)],r22.2)) (
 some (1,[(strip (strip (strip a0))),(strip a1)],r22.2))):Option (Nat × List V × VH))).bind fun r27 =>
 A5 r27.1 [
 l5 1 r27.2.1 fun v28 =>
 some ((v28 0),r27.2.2),
 l5 2 r27.2.1 fun v29 =>
 (M3 (v29 0)).bind fun x31 =>
 (L3 x31 1).bind fun x32 =>
 (L8 I2 false false 1 x32 r27.2.2).bind fun r34 =>
 (a8 (.int .i64) .sub r34.1 (.int .i64 1)).bind fun x35 =>
 (M3 (strip (v29 0))).bind fun x39 =>
 (L3 x39 0).bind fun x40 =>
 (L8 I2 false false 1 x40 r34.2).bind fun r42 =>
 (J7 r42.1).bind fun x43 =>
 (a8 (.int .i64) .lss x35 x43).bind fun x44 =>
 l3 x44 (
 (M3 (strip (strip (v29 0)))).bind fun x46 =>
 (L3 x46 0).bind fun x47 =>
 (L8 I2 false false 1 x47 r42.2).bind fun r49 =>
 (M0 1 r49.1 (strip x35)).bind fun x51 =>
 (L8 I2 false false 1 x51 r49.2).bind fun r53 =>
 (aai .i64 r53.1).bind fun x54 =>
 (a8 (.int .i64) .rem x54 (v29 1)).bind fun x56 =>
 some (x56,r53.2)) (
 (M3 (strip (strip (v29 0)))).bind fun x59 =>
 (L3 x59 0).bind fun x60 =>
 (L8 I2 false false 1 x60 r42.2).bind fun r62 =>
 (M3 (strip (strip (strip (v29 0))))).bind fun x65 =>
 (L3 x65 0).bind fun x66 =>
 (L8 I2 false false 1 x66 r62.2).bind fun r68 =>
 (J7 r68.1).bind fun x69 =>
 (a8 (.int .i64) .rem (strip x35) x69).bind fun x70 =>
 (M0 1 r62.1 x70).bind fun x71 =>
 (L8 I2 false false 1 x71 r68.2).bind fun r73 =>
 (aai .i64 r73.1).bind fun x74 =>
 (a8 (.int .i64) .mul x74 (.int .i64 131)).bind fun x75 =>
 (M3 (strip (strip (strip (strip (v29 0)))))).bind fun x77 =>
 (L3 x77 0).bind fun x78 =>
 (L8 I2 false false 1 x78 r73.2).bind fun r80 =>
 (a8 (.int .i64) .mul (strip (strip x35)) (.int .i64 7)).bind fun x82 =>
 (a8 (.int .i64) .add x82 (.int .i64 3)).bind fun x83 =>
 (M3 (strip (strip (strip (strip (strip (v29 0))))))).bind fun x85 =>
 (L3 x85 0).bind fun x86 =>
 (L8 I2 false false 1 x86 r80.2).bind fun r88 =>
 (J7 r88.1).bind fun x89 =>
 (a8 (.int .i64) .rem x83 x89).bind fun x90 =>
 (M0 1 r80.1 x90).bind fun x91 =>
 (L8 I2 false false 1 x91 r88.2).bind fun r93 =>
 (aai .i64 r93.1).bind fun x94 =>
 (a8 (.int .i64) .mul x94 (.int .i64 1117)).bind fun x95 =>
 (a8 (.int .i64) .add x75 x95).bind fun x96 =>
 (a8 (.int .i64) .mul (strip (strip (strip x35))) (.int .i64 29)).bind fun x98 =>
 (a8 (.int .i64) .add x96 x98).bind fun x99 =>
 (M3 (strip (strip (strip (strip (strip (strip (v29 0)))))))).bind fun x102 =>
 (L3 x102 0).bind fun x103 =>
 (L8 I2 false false 1 x103 r93.2).bind fun r105 =>
 (J7 r105.1).bind fun x106 =>
 (a8 (.int .i64) .quo (strip (strip (strip (strip x35)))) x106).bind fun x107 =>
 (a8 (.int .i64) .mul x107 (.int .i64 53)).bind fun x108 =>
 (a8 (.int .i64) .add x99 x108).bind fun x109 =>
 (a8 (.int .i64) .quo (strip x109) (.int .i64 64)).bind fun x113 =>
 (a8 (.int .i64) .xor x109 x113).bind fun x114 =>
 (a8 (.int .i64) .rem x114 (v29 1)).bind fun x118 =>
 some (x118,r105.2))]:=(l6 vb _ _ _ rfl).trans (by kernel_rfl)
theorem ahZ (a0 a1:V) (H:VH):cv T5 [a0,a1] H =
 (J7 (strip a1)).bind fun x4 =>
 (cv O9 [(strip a0),(strip x4)] H).bind fun r6 =>
 (M0 1 (strip a1) r6.1).bind fun x7 =>
 (L8 I2 false false 1 x7 r6.2).bind fun r9 =>
 some (r9.1,r9.2):=(l6 vb _ _ _ rfl).trans (by kernel_rfl)
noncomputable def ab0:List V->VH->Option (Option Nat × List V × VH):=E2 (vb.ctx cv p5) (vb.b.I8 7) (vb.D7 7) ⟨⟨[0,4,5],[],[]⟩,[(.exit 3,⟨[0,4,5],[],[]⟩)]⟩ (E5 Tryz.f7 8)
noncomputable def abQ:List V->VH->Option (Option Nat × List V × VH):=E2 (vb.ctx cv p5) (vb.b.I8 7) (vb.D7 7) ⟨⟨[0,4],[],[]⟩,[(.exit 1,⟨[4],[],[]⟩)]⟩ (E5 Tryz.f7 6)
theorem aey (v0 v1 v2:V) (H:VH):ab0 [v0,v1,v2] H =
 (id (
 (o9 v0).bind fun x23 =>
 (a8 (.int .i64) .lss v2 x23).bind fun x24 =>
 l9 x24 (
 (a8 (.int .i64) .add (strip v2) (.int .i64 1)).bind fun x28 =>
 (w8 (strip v0) none (some x28)).bind fun x29 =>
 (qc F7 [(l4 H x29)]).bind fun x30 =>
 (o9 x30).bind fun x31 =>
 (a8 (.int .i64) .leq x31 (.int .i64 40)).bind fun x32 =>
 l3 x32 (
 some (0,[(strip (strip v0)),v1,(strip (strip v2))],H)) (
 some (1,[(strip (strip v0)),v1,(strip (strip v2))],H))) (
 some (1,[(strip v0),v1,(strip v2)],H)):Option (Nat × List V × VH))).bind fun r35 =>
 A5 r35.1 [
 l5 3 r35.2.1 fun v36 =>
 (a8 (.int .i64) .add (v36 2) (.int .i64 1)).bind fun x38 =>
 some (none,[(v36 0),(v36 1),x38],r35.2.2),
 l5 3 r35.2.1 fun v40 =>
 some (some 0,[(v40 0),(v40 1),(v40 2)],r35.2.2)]:=by kernel_rfl
theorem aeB (v0 v1:V) (H:VH):abQ [v0,v1] H =
 (o9 v0).bind fun x18 =>
 (a8 (.int .i64) .gtr x18 (.int .i64 0)).bind fun x19 =>
 l3 x19 (
 (p5 ab0 [(strip v0),v1,(.int .i64 1)] H).bind fun r41 =>
 A5 r41.1 [
 l5 3 r41.2.1 fun v42 =>
 (w8 (v42 0) none (some (v42 2))).bind fun x46 =>
 (qc F7 [(l4 r41.2.2 x46)]).bind fun x47 =>
 (C3 x47).bind fun y49 =>
 (afi (v42 1)).bind fun s51 =>
 (W8 false 1 16 s51 (.sl true [[y49]])).bind fun x50 =>
 (w8 (strip (v42 0)) (some (strip (v42 2))) none).bind fun x54 =>
 some (none,[x54,x50],r41.2.2)]) (
 some (some 0,[v1],H)):=by kernel_rfl
theorem afN (a0:V) (H:VH):cv K5 [a0] H =
 (o9 a0).bind fun x3 =>
 (a8 (.int .i64) .gtr x3 (.int .i64 120)).bind fun x4 =>
 l3 x4 (
 some ((.o8 [(.str []),(.bool false)]),H)) (
 (qc aad [(l4 H (strip a0))]).bind fun x9 =>
 (T3 .not x9).bind fun x10 =>
 l3 x10 (
 some ((.o8 [(strip (strip a0)),(.bool true)]),H)) (
 (p5 abQ [(strip (strip a0)),(.sl true [])] H).bind fun r57 =>
 A5 r57.1 [
 l5 1 r57.2.1 fun v58 =>
 (cv adK [(strip (strip (v58 0))),(.str [32])] r57.2.2).bind fun r61 =>
 some ((.o8 [r61.1,(.bool true)]),r61.2)])):=(l6 vb _ _ _ rfl).trans (by kernel_rfl)
theorem ag0 (a0:V) (H:VH):cv aad [a0] H =
 (qc aag [(l4 H a0)]).bind fun x2 =>
 (T3 .not x2).bind fun x3 =>
 l9 x3 (
 some ((.bool true),H)) (
 (qc aaN [(l4 H (strip a0)),(l4 H (.str [32]))]).bind fun x12 =>
 (a8 .str .neq x12 (strip (strip a0))).bind fun x14 =>
 l9 x14 (
 some ((.bool true),H)) (
 (cv abg [(strip (strip (strip (strip a0)))),(.str [61,63])] H).bind fun r23 =>
 l9 r23.1 (
 some ((.bool true),r23.2)) (
 (o9 (strip (strip (strip (strip a0))))).bind fun x29 =>
 (a8 (.int .i64) .gtr x29 (.int .i64 120)).bind fun x30 =>
 some (x30,r23.2)))):=(l6 vb _ _ _ rfl).trans (by kernel_rfl)
noncomputable def R7:List V->VH->Option (Option Nat × List V × VH):=E2 (vb.ctx cv p5) (vb.b.I8 41) (vb.D7 41) ⟨⟨[0,5,6],[],[]⟩,[(.exit 0,⟨[0],[],[]⟩),(.ret,⟨[2],[],[]⟩)]⟩ (E5 Tryz.f41 2)
theorem aaT (v0 v1 v2:V) (H:VH):R7 [v0,v1,v2] H =
 (a8 (.int .i64) .lss v2 v1).bind fun x4 =>
 l3 x4 (
 (p9 v0 v2).bind fun x9 =>
 (a8 (.int .u8) .lss x9 (.int .u8 32)).bind fun x10 =>
 l9 x10 (
 some (some 1,[(.bool false)],H)) (
 (p9 (strip v0) (strip v2)).bind fun x16 =>
 (a8 (.int .u8) .gtr x16 (.int .u8 126)).bind fun x17 =>
 l3 x17 (
 some (some 1,[(.bool false)],H)) (
 (a8 (.int .i64) .add (strip v2) (.int .i64 1)).bind fun x20 =>
 some (none,[(strip (strip v0)),v1,x20],H)))) (
 some (some 0,[v0],H)):=by kernel_rfl
theorem ahh (a0:V) (H:VH):cv aag [a0] H =
 (o9 a0).bind fun x2 =>
 (p5 R7 [(strip a0),x2,(.int .i64 0)] H).bind fun r22 =>
 A5 r22.1 [
 l5 1 r22.2.1 fun v23 =>
 (o9 (v23 0)).bind fun x25 =>
 (a8 (.int .i64) .leq x25 (.int .i64 200)).bind fun x26 =>
 some (x26,r22.2.2),
 l5 1 r22.2.1 fun v28 =>
 some ((v28 0),r22.2.2)]:=(l6 vb _ _ _ rfl).trans (by kernel_rfl)
theorem ai4 (a0 a1:V) (H:VH):cv aaN [a0,a1] H =
 (id (
 (a8 .str .eql a0 (.str [])).bind fun x2 =>
 l9 x2 (
 some (0,[(strip a0)],H)) (
 (a8 .str .eql a1 (.str [])).bind fun x8 =>
 l3 x8 (
 some (0,[(strip a0)],H)) (
 some (1,[(strip a0),(strip a1)],H))):Option (Nat × List V × VH))).bind fun r12 =>
 A5 r12.1 [
 l5 1 r12.2.1 fun v13 =>
 some ((v13 0),r12.2.2),
 l5 2 r12.2.1 fun v14 =>
 (id (
 (o9 (v14 1)).bind fun x16 =>
 (a8 (.int .i64) .eql x16 (.int .i64 1)).bind fun x17 =>
 l9 x17 (
 (p9 (strip (v14 1)) (.int .i64 0)).bind fun x20 =>
 (a8 (.int .u8) .lss x20 (.int .u8 128)).bind fun x21 =>
 l3 x21 (
 (p9 (strip (strip (v14 1))) (.int .i64 0)).bind fun x25 =>
 (qc E3 [(l4 r12.2.2 (v14 0)),(l4 r12.2.2 x25)]).bind fun x26 =>
 (p9 (strip (strip (strip (v14 1)))) (.int .i64 0)).bind fun x28 =>
 (qc F0 [(l4 r12.2.2 x26),(l4 r12.2.2 x28)]).bind fun x29 =>
 some (0,[x29],r12.2.2)) (
 some (1,[(v14 0),(strip (strip (v14 1)))],r12.2.2))) (
 some (1,[(v14 0),(strip (v14 1))],r12.2.2)):Option (Nat × List V × VH))).bind fun r32 =>
 A5 r32.1 [
 l5 1 r32.2.1 fun v33 =>
 some ((v33 0),r32.2.2),
 l5 2 r32.2.1 fun v34 =>
 (pc adk [(l4 r32.2.2 (v34 1))]).bind fun x36 =>
 (y4 x36 0).bind fun x38 =>
 (y4 x36 1).bind fun x39 =>
 (P9 256 (strip x38)).bind fun c42 =>
 (stO (.ptr r32.2.2.length 0) [(c42.getD 0 .b7),(c42.getD 1 .b7),(c42.getD 2 .b7),(c42.getD 3 .b7),(c42.getD 4 .b7),(c42.getD 5 .b7),(c42.getD 6 .b7),(c42.getD 7 .b7),(c42.getD 8 .b7),(c42.getD 9 .b7),(c42.getD 10 .b7),(c42.getD 11 .b7),(c42.getD 12 .b7),(c42.getD 13 .b7),(c42.getD 14 .b7),(c42.getD 15 .b7),(c42.getD 16 .b7),(c42.getD 17 .b7),(c42.getD 18 .b7),(c42.getD 19 .b7),(c42.getD 20 .b7),(c42.getD 21 .b7),(c42.getD 22 .b7),(c42.getD 23 .b7),(c42.getD 24 .b7),(c42.getD 25 .b7),(c42.getD 26 .b7),(c42.getD 27 .b7),(c42.getD 28 .b7),(c42.getD 29 .b7),(c42.getD 30 .b7),(c42.getD 31 .b7),(c42.getD 32 .b7),(c42.getD 33 .b7),(c42.getD 34 .b7),(c42.getD 35 .b7),(c42.getD 36 .b7),(c42.getD 37 .b7),(c42.getD 38 .b7),(c42.getD 39 .b7),(c42.getD 40 .b7),(c42.getD 41 .b7),(c42.getD 42 .b7),(c42.getD 43 .b7),(c42.getD 44 .b7),(c42.getD 45 .b7),(c42.getD 46 .b7),(c42.getD 47 .b7),(c42.getD 48 .b7),(c42.getD 49 .b7),(c42.getD 50 .b7),(c42.getD 51 .b7),(c42.getD 52 .b7),(c42.getD 53 .b7),(c42.getD 54 .b7),(c42.getD 55 .b7),(c42.getD 56 .b7),(c42.getD 57 .b7),(c42.getD 58 .b7),(c42.getD 59 .b7),(c42.getD 60 .b7),(c42.getD 61 .b7),(c42.getD 62 .b7),(c42.getD 63 .b7),(c42.getD 64 .b7),(c42.getD 65 .b7),(c42.getD 66 .b7),(c42.getD 67 .b7),(c42.getD 68 .b7),(c42.getD 69 .b7),(c42.getD 70 .b7),(c42.getD 71 .b7),(c42.getD 72 .b7),(c42.getD 73 .b7),(c42.getD 74 .b7),(c42.getD 75 .b7),(c42.getD 76 .b7),(c42.getD 77 .b7),(c42.getD 78 .b7),(c42.getD 79 .b7),(c42.getD 80 .b7),(c42.getD 81 .b7),(c42.getD 82 .b7),(c42.getD 83 .b7),(c42.getD 84 .b7),(c42.getD 85 .b7),(c42.getD 86 .b7),(c42.getD 87 .b7),(c42.getD 88 .b7),(c42.getD 89 .b7),(c42.getD 90 .b7),(c42.getD 91 .b7),(c42.getD 92 .b7),(c42.getD 93 .b7),(c42.getD 94 .b7),(c42.getD 95 .b7),(c42.getD 96 .b7),(c42.getD 97 .b7),(c42.getD 98 .b7),(c42.getD 99 .b7),(c42.getD 100 .b7),(c42.getD 101 .b7),(c42.getD 102 .b7),(c42.getD 103 .b7),(c42.getD 104 .b7),(c42.getD 105 .b7),(c42.getD 106 .b7),(c42.getD 107 .b7),(c42.getD 108 .b7),(c42.getD 109 .b7),(c42.getD 110 .b7),(c42.getD 111 .b7),(c42.getD 112 .b7),(c42.getD 113 .b7),(c42.getD 114 .b7),(c42.getD 115 .b7),(c42.getD 116 .b7),(c42.getD 117 .b7),(c42.getD 118 .b7),(c42.getD 119 .b7),(c42.getD 120 .b7),(c42.getD 121 .b7),(c42.getD 122 .b7),(c42.getD 123 .b7),(c42.getD 124 .b7),(c42.getD 125 .b7),(c42.getD 126 .b7),(c42.getD 127 .b7),(c42.getD 128 .b7),(c42.getD 129 .b7),(c42.getD 130 .b7),(c42.getD 131 .b7),(c42.getD 132 .b7),(c42.getD 133 .b7),(c42.getD 134 .b7),(c42.getD 135 .b7),(c42.getD 136 .b7),(c42.getD 137 .b7),(c42.getD 138 .b7),(c42.getD 139 .b7),(c42.getD 140 .b7),(c42.getD 141 .b7),(c42.getD 142 .b7),(c42.getD 143 .b7),(c42.getD 144 .b7),(c42.getD 145 .b7),(c42.getD 146 .b7),(c42.getD 147 .b7),(c42.getD 148 .b7),(c42.getD 149 .b7),(c42.getD 150 .b7),(c42.getD 151 .b7),(c42.getD 152 .b7),(c42.getD 153 .b7),(c42.getD 154 .b7),(c42.getD 155 .b7),(c42.getD 156 .b7),(c42.getD 157 .b7),(c42.getD 158 .b7),(c42.getD 159 .b7),(c42.getD 160 .b7),(c42.getD 161 .b7),(c42.getD 162 .b7),(c42.getD 163 .b7),(c42.getD 164 .b7),(c42.getD 165 .b7),(c42.getD 166 .b7),(c42.getD 167 .b7),(c42.getD 168 .b7),(c42.getD 169 .b7),(c42.getD 170 .b7),(c42.getD 171 .b7),(c42.getD 172 .b7),(c42.getD 173 .b7),(c42.getD 174 .b7),(c42.getD 175 .b7),(c42.getD 176 .b7),(c42.getD 177 .b7),(c42.getD 178 .b7),(c42.getD 179 .b7),(c42.getD 180 .b7),(c42.getD 181 .b7),(c42.getD 182 .b7),(c42.getD 183 .b7),(c42.getD 184 .b7),(c42.getD 185 .b7),(c42.getD 186 .b7),(c42.getD 187 .b7),(c42.getD 188 .b7),(c42.getD 189 .b7),(c42.getD 190 .b7),(c42.getD 191 .b7),(c42.getD 192 .b7),(c42.getD 193 .b7),(c42.getD 194 .b7),(c42.getD 195 .b7),(c42.getD 196 .b7),(c42.getD 197 .b7),(c42.getD 198 .b7),(c42.getD 199 .b7),(c42.getD 200 .b7),(c42.getD 201 .b7),(c42.getD 202 .b7),(c42.getD 203 .b7),(c42.getD 204 .b7),(c42.getD 205 .b7),(c42.getD 206 .b7),(c42.getD 207 .b7),(c42.getD 208 .b7),(c42.getD 209 .b7),(c42.getD 210 .b7),(c42.getD 211 .b7),(c42.getD 212 .b7),(c42.getD 213 .b7),(c42.getD 214 .b7),(c42.getD 215 .b7),(c42.getD 216 .b7),(c42.getD 217 .b7),(c42.getD 218 .b7),(c42.getD 219 .b7),(c42.getD 220 .b7),(c42.getD 221 .b7),(c42.getD 222 .b7),(c42.getD 223 .b7),(c42.getD 224 .b7),(c42.getD 225 .b7),(c42.getD 226 .b7),(c42.getD 227 .b7),(c42.getD 228 .b7),(c42.getD 229 .b7),(c42.getD 230 .b7),(c42.getD 231 .b7),(c42.getD 232 .b7),(c42.getD 233 .b7),(c42.getD 234 .b7),(c42.getD 235 .b7),(c42.getD 236 .b7),(c42.getD 237 .b7),(c42.getD 238 .b7),(c42.getD 239 .b7),(c42.getD 240 .b7),(c42.getD 241 .b7),(c42.getD 242 .b7),(c42.getD 243 .b7),(c42.getD 244 .b7),(c42.getD 245 .b7),(c42.getD 246 .b7),(c42.getD 247 .b7),(c42.getD 248 .b7),(c42.getD 249 .b7),(c42.getD 250 .b7),(c42.getD 251 .b7),(c42.getD 252 .b7),(c42.getD 253 .b7),(c42.getD 254 .b7),(c42.getD 255 .b7)] (r32.2.2++[[(.bool false),(.bool false),(.bool false),(.bool false),(.bool false),(.bool false),(.bool false),(.bool false),(.bool false),(.bool false),(.bool false),(.bool false),(.bool false),(.bool false),(.bool false),(.bool false),(.bool false),(.bool false),(.bool false),(.bool false),(.bool false),(.bool false),(.bool false),(.bool false),(.bool false),(.bool false),(.bool false),(.bool false),(.bool false),(.bool false),(.bool false),(.bool false),(.bool false),(.bool false),(.bool false),(.bool false),(.bool false),(.bool false),(.bool false),(.bool false),(.bool false),(.bool false),(.bool false),(.bool false),(.bool false),(.bool false),(.bool false),(.bool false),(.bool false),(.bool false),(.bool false),(.bool false),(.bool false),(.bool false),(.bool false),(.bool false),(.bool false),(.bool false),(.bool false),(.bool false),(.bool false),(.bool false),(.bool false),(.bool false),(.bool false),(.bool false),(.bool false),(.bool false),(.bool false),(.bool false),(.bool false),(.bool false),(.bool false),(.bool false),(.bool false),(.bool false),(.bool false),(.bool false),(.bool false),(.bool false),(.bool false),(.bool false),(.bool false),(.bool false),(.bool false),(.bool false),(.bool false),(.bool false),(.bool false),(.bool false),(.bool false),(.bool false),(.bool false),(.bool false),(.bool false),(.bool false),(.bool false),(.bool false),(.bool false),(.bool false),(.bool false),(.bool false),(.bool false),(.bool false),(.bool false),(.bool false),(.bool false),(.bool false),(.bool false),(.bool false),(.bool false),(.bool false),(.bool false),(.bool false),(.bool false),(.bool false),(.bool false),(.bool false),(.bool false),(.bool false),(.bool false),(.bool false),(.bool false),(.bool false),(.bool false),(.bool false),(.bool false),(.bool false),(.bool false),(.bool false),(.bool false),(.bool false),(.bool false),(.bool false),(.bool false),(.bool false),(.bool false),(.bool false),(.bool false),(.bool false),(.bool false),(.bool false),(.bool false),(.bool false),(.bool false),(.bool false),(.bool false),(.bool false),(.bool false),(.bool false),(.bool false),(.bool false),(.bool false),(.bool false),(.bool false),(.bool false),(.bool false),(.bool false),(.bool false),(.bool false),(.bool false),(.bool false),(.bool false),(.bool false),(.bool false),(.bool false),(.bool false),(.bool false),(.bool false),(.bool false),(.bool false),(.bool false),(.bool false),(.bool false),(.bool false),(.bool false),(.bool false),(.bool false),(.bool false),(.bool false),(.bool false),(.bool false),(.bool false),(.bool false),(.bool false),(.bool false),(.bool false),(.bool false),(.bool false),(.bool false),(.bool false),(.bool false),(.bool false),(.bool false),(.bool false),(.bool false),(.bool false),(.bool false),(.bool false),(.bool false),(.bool false),(.bool false),(.bool false),(.bool false),(.bool false),(.bool false),(.bool false),(.bool false),(.bool false),(.bool false),(.bool false),(.bool false),(.bool false),(.bool false),(.bool false),(.bool false),(.bool false),(.bool false),(.bool false),(.bool false),(.bool false),(.bool false),(.bool false),(.bool false),(.bool false),(.bool false),(.bool false),(.bool false),(.bool false),(.bool false),(.bool false),(.bool false),(.bool false),(.bool false),(.bool false),(.bool false),(.bool false),(.bool false),(.bool false),(.bool false),(.bool false),(.bool false),(.bool false),(.bool false),(.bool false),(.bool false),(.bool false),(.bool false),(.bool false),(.bool false),(.bool false),(.bool false),(.bool false),(.bool false),(.bool false),(.bool false)]])).bind fun H43 =>
 l3 (strip x39) (
 (cv acx [(strip (v34 0)),(.ptr r32.2.2.length 0)] H43).bind fun r48 =>
 (cv acV [(strip r48.1),(.ptr r32.2.2.length 0)] r48.2).bind fun r50 =>
 some (r50.1,r50.2)) (
 (qc abY [(l4 H43 (v34 0)),(l4 H43 (strip (v34 1)))]).bind fun x54 =>
 (qc acf [(l4 H43 x54),(l4 H43 (strip (strip (v34 1))))]).bind fun x56 =>
 some (x56,H43))]]:=(l6 vb _ _ _ rfl).trans (by kernel_rfl)
noncomputable def W9:List V->VH->Option (Option Nat × List V × VH):=E2 (vb.ctx cv p5) (vb.b.I8 86) (vb.D7 86) ⟨⟨[0,1],[],[]⟩,[(.exit 0,⟨[0],[],[]⟩)]⟩ (E5 Tryz.f86 1)
theorem ab9 (v0 v1:V) (H:VH):W9 [v0,v1] H =
 (id (
 (o9 v0).bind fun x2 =>
 (a8 (.int .i64) .gtr x2 (.int .i64 0)).bind fun x3 =>
 l9 x3 (
 (o9 (strip (strip v0))).bind fun x7 =>
 (a8 (.int .i64) .sub x7 (.int .i64 1)).bind fun x8 =>
 (p9 (strip v0) x8).bind fun x9 =>
 (a8 (.int .u8) .eql x9 v1).bind fun x11 =>
 l3 x11 (
 some (0,[(strip (strip (strip v0))),(strip v1)],H)) (
 some (1,[(strip (strip (strip v0)))],H))) (
 some (1,[(strip v0)],H)):Option (Nat × List V × VH))).bind fun r14 =>
 A5 r14.1 [
 l5 2 r14.2.1 fun v15 =>
 (o9 (strip (v15 0))).bind fun x18 =>
 (a8 (.int .i64) .sub x18 (.int .i64 1)).bind fun x19 =>
 (w8 (v15 0) none (some x19)).bind fun x20 =>
 some (none,[x20,(v15 1)],r14.2.2),
 l5 1 r14.2.1 fun v22 =>
 some (some 0,[(v22 0)],r14.2.2)]:=by kernel_rfl
theorem adi (a0 a1:V) (H:VH):cv E3 [a0,a1] H =
 (p5 W9 [a0,a1] H).bind fun r23 =>
 A5 r23.1 [
 l5 1 r23.2.1 fun v24 =>
 some ((v24 0),r23.2.2)]:=(l6 vb _ _ _ rfl).trans (by kernel_rfl)
noncomputable def Z8:List V->VH->Option (Option Nat × List V × VH):=E2 (vb.ctx cv p5) (vb.b.I8 85) (vb.D7 85) ⟨⟨[0,1],[],[]⟩,[(.exit 0,⟨[0],[],[]⟩)]⟩ (E5 Tryz.f85 1)
theorem acj (v0 v1:V) (H:VH):Z8 [v0,v1] H =
 (id (
 (o9 v0).bind fun x2 =>
 (a8 (.int .i64) .gtr x2 (.int .i64 0)).bind fun x3 =>
 l9 x3 (
 (p9 (strip v0) (.int .i64 0)).bind fun x6 =>
 (a8 (.int .u8) .eql x6 v1).bind fun x8 =>
 l3 x8 (
 some (0,[(strip (strip v0)),(strip v1)],H)) (
 some (1,[(strip (strip v0))],H))) (
 some (1,[(strip v0)],H)):Option (Nat × List V × VH))).bind fun r11 =>
 A5 r11.1 [
 l5 2 r11.2.1 fun v12 =>
 (w8 (v12 0) (some (.int .i64 1)) none).bind fun x14 =>
 some (none,[x14,(v12 1)],r11.2.2),
 l5 1 r11.2.1 fun v16 =>
 some (some 0,[(v16 0)],r11.2.2)]:=by kernel_rfl
theorem adl (a0 a1:V) (H:VH):cv F0 [a0,a1] H =
 (p5 Z8 [a0,a1] H).bind fun r17 =>
 A5 r17.1 [
 l5 1 r17.2.1 fun v18 =>
 some ((v18 0),r17.2.2)]:=(l6 vb _ _ _ rfl).trans (by kernel_rfl)
noncomputable def acO:List V->VH->Option (Option Nat × List V × VH):=E2 (vb.ctx cv p5) (vb.b.I8 21) (vb.D7 21) ⟨⟨[0,3,6,7],[],[]⟩,[(.exit 0,⟨[3],[],[]⟩)]⟩ (E5 Tryz.f21 3)
theorem afx (v0 v1 v2 v3:V) (H:VH):acO [v0,v1,v2,v3] H =
 (a8 (.int .i64) .lss v3 v2).bind fun x5 =>
 l3 x5 (
 (p9 v0 v3).bind fun x11 =>
 (qc aaE [(l4 H x11)]).bind fun x12 =>
 (a8 .str .add v1 x12).bind fun x13 =>
 (a8 (.int .i64) .add (strip v3) (.int .i64 1)).bind fun x15 =>
 some (none,[(strip v0),x13,v2,x15],H)) (
 some (some 0,[v1],H)):=by kernel_rfl
theorem ahU (a0:V) (H:VH):cv F7 [a0] H =
 (o9 a0).bind fun x3 =>
 (p5 acO [(strip a0),(.str [61,63,117,116,102,45,56,63,113,63]),x3,(.int .i64 0)] H).bind fun r17 =>
 A5 r17.1 [
 l5 1 r17.2.1 fun v18 =>
 (a8 .str .add (v18 0) (.str [63,61])).bind fun x20 =>
 some (x20,r17.2.2)]:=(l6 vb _ _ _ rfl).trans (by kernel_rfl)
theorem aiq (a0:V) (H:VH):cv aaE [a0] H =
 (id (
 (qc aaC [(l4 H a0)]).bind fun x2 =>
 l9 x2 (
 (C3 (strip a0)).bind fun y12 =>
 (aae (.sl true [[y12]]) H).bind fun x13 =>
 some (0,[x13],H)) (
 (qc aaP [(l4 H (strip a0))]).bind fun x16 =>
 l9 x16 (
 (C3 (strip (strip a0))).bind fun y25 =>
 (aae (.sl true [[y25]]) H).bind fun x26 =>
 some (0,[x26],H)) (
 (a8 (.int .u8) .eql (strip (strip a0)) (.int .u8 45)).bind fun x29 =>
 l9 x29 (
 (C3 (strip (strip (strip a0)))).bind fun y36 =>
 (aae (.sl true [[y36]]) H).bind fun x37 =>
 some (0,[x37],H)) (
 (a8 (.int .u8) .eql (strip (strip (strip a0))) (.int .u8 46)).bind fun x40 =>
 l3 x40 (
 (C3 (strip (strip (strip (strip a0))))).bind fun y45 =>
 (aae (.sl true [[y45]]) H).bind fun x46 =>
 some (0,[x46],H)) (
 (a8 (.int .u8) .eql (strip (strip (strip (strip a0)))) (.int .u8 32)).bind fun x49 =>
 l3 x49 (
 some (0,[(.str [95])],H)) (
 some (1,[(strip (strip (strip (strip (strip a0)))))],H)))))):Option (Nat × List V × VH))).bind fun r52 =>
 A5 r52.1 [
 l5 1 r52.2.1 fun v53 =>
 some ((v53 0),r52.2.2),
 l5 1 r52.2.1 fun v54 =>
 (qc aa0 [(l4 r52.2.2 (v54 0))]).bind fun x56 =>
 some (x56,r52.2.2)]:=(l6 vb _ _ _ rfl).trans (by kernel_rfl)
theorem ahH (a0:V) (H:VH):cv aaC [a0] H =
 (a8 (.int .u8) .geq a0 (.int .u8 97)).bind fun x2 =>
 l9 x2 (
 (a8 (.int .u8) .leq (strip a0) (.int .u8 122)).bind fun x5 =>
 l9 x5 (
 some ((.bool true),H)) (
 (a8 (.int .u8) .geq (strip (strip a0)) (.int .u8 65)).bind fun x11 =>
 l9 x11 (
 (a8 (.int .u8) .leq (strip (strip (strip a0))) (.int .u8 90)).bind fun x14 =>
 some (x14,H)) (
 some ((.bool false),H)))) (
 (a8 (.int .u8) .geq (strip a0) (.int .u8 65)).bind fun x24 =>
 l9 x24 (
 (a8 (.int .u8) .leq (strip (strip a0)) (.int .u8 90)).bind fun x27 =>
 some (x27,H)) (
 some ((.bool false),H))):=(l6 vb _ _ _ rfl).trans (by kernel_rfl)
theorem ai6 (a0:V) (H:VH):cv aaP [a0] H =
 (a8 (.int .u8) .geq a0 (.int .u8 48)).bind fun x2 =>
 l9 x2 (
 (a8 (.int .u8) .leq (strip a0) (.int .u8 57)).bind fun x5 =>
 some (x5,H)) (
 some ((.bool false),H)):=(l6 vb _ _ _ rfl).trans (by kernel_rfl)
theorem aiT (a0:V) (H:VH):cv aa0 [a0] H =
 (a8 (.int .u8) .shr a0 (.int .u64 4)).bind fun x2 =>
 (a8 (.int .u8) .shr (strip a0) (.int .u64 4)).bind fun x4 =>
 (a8 (.int .u8) .add x4 (.int .u8 1)).bind fun x5 =>
 (w8 (.str [48,49,50,51,52,53,54,55,56,57,65,66,67,68,69,70]) (some x2) (some x5)).bind fun x6 =>
 (a8 .str .add (.str [61]) x6).bind fun x7 =>
 (a8 (.int .u8) .and (strip (strip a0)) (.int .u8 15)).bind fun x9 =>
 (a8 (.int .u8) .and (strip (strip (strip a0))) (.int .u8 15)).bind fun x11 =>
 (a8 (.int .u8) .add x11 (.int .u8 1)).bind fun x12 =>
 (w8 (.str [48,49,50,51,52,53,54,55,56,57,65,66,67,68,69,70]) (some x9) (some x12)).bind fun x13 =>
 (a8 .str .add x7 x13).bind fun x14 =>
 some (x14,H):=(l6 vb _ _ _ rfl).trans (by kernel_rfl)
noncomputable def aca:List V->VH->Option (Option Nat × List V × VH):=E2 (vb.ctx cv p5) (vb.b.I8 8) (vb.D7 8) ⟨⟨[0,4,5,6],[],[]⟩,[(.exit 2,⟨[0,4,5,6],[],[]⟩)]⟩ (E5 Tryz.f8 9)
noncomputable def abZ:List V->VH->Option (Option Nat × List V × VH):=E2 (vb.ctx cv p5) (vb.b.I8 8) (vb.D7 8) ⟨⟨[0,4,5],[],[]⟩,[(.exit 0,⟨[4],[],[]⟩)]⟩ (E5 Tryz.f8 7)
theorem aec (v0 v1 v2 v3:V) (H:VH):aca [v0,v1,v2,v3] H =
 (id (
 (o9 v0).bind fun x24 =>
 (a8 (.int .i64) .lss v3 x24).bind fun x25 =>
 l9 x25 (
 (a8 (.int .i64) .add (strip v3) (.int .i64 1)).bind fun x30 =>
 (w8 (strip v0) (some v2) (some x30)).bind fun x31 =>
 (qc S1 [(l4 H x31)]).bind fun x32 =>
 (o9 x32).bind fun x33 =>
 (a8 (.int .i64) .leq x33 (.int .i64 28)).bind fun x34 =>
 l3 x34 (
 some (0,[(strip (strip v0)),v1,(strip v2),(strip (strip v3))],H)) (
 some (1,[(strip (strip v0)),v1,(strip v2),(strip (strip v3))],H))) (
 some (1,[(strip v0),v1,v2,(strip v3)],H)):Option (Nat × List V × VH))).bind fun r37 =>
 A5 r37.1 [
 l5 4 r37.2.1 fun v38 =>
 (a8 (.int .i64) .add (v38 3) (.int .i64 1)).bind fun x40 =>
 some (none,[(v38 0),(v38 1),(v38 2),x40],r37.2.2),
 l5 4 r37.2.1 fun v42 =>
 some (some 0,[(v42 0),(v42 1),(v42 2),(v42 3)],r37.2.2)]:=by kernel_rfl
theorem ad7 (v0 v1 v2:V) (H:VH):abZ [v0,v1,v2] H =
 (o9 v0).bind fun x17 =>
 (a8 (.int .i64) .lss v2 x17).bind fun x18 =>
 l3 x18 (
 (a8 (.int .i64) .add (strip v2) (.int .i64 1)).bind fun x20 =>
 (p5 aca [(strip v0),v1,(strip (strip v2)),x20] H).bind fun r43 =>
 A5 r43.1 [
 l5 4 r43.2.1 fun v44 =>
 (w8 (v44 0) (some (v44 2)) (some (v44 3))).bind fun x48 =>
 (qc aaA [(l4 r43.2.2 x48)]).bind fun x49 =>
 (y4 x49 0).bind fun x51 =>
 (y4 x49 1).bind fun x52 =>
 (id (
 (a8 (.int .i64) .gtr (strip (v44 2)) (.int .i64 0)).bind fun x56 =>
 l3 x56 (
 (a8 .str .add (v44 1) (.str [32])).bind fun x58 =>
 some (0,[(strip (v44 0)),x58,(strip (v44 3)),(strip x51)],r43.2.2)) (
 some (0,[(strip (v44 0)),(v44 1),(strip (v44 3)),(strip x51)],r43.2.2)):Option (Nat × List V × VH))).bind fun r60 =>
 A5 r60.1 [
 l5 4 r60.2.1 fun v61 =>
 (a8 .str .add (v61 1) (v61 3)).bind fun x64 =>
 some (none,[(v61 0),x64,(v61 2)],r60.2.2)]]) (
 some (some 0,[v1],H)):=by kernel_rfl
theorem afI (a0:V) (H:VH):cv P3 [a0] H =
 (o9 a0).bind fun x3 =>
 (a8 (.int .i64) .gtr x3 (.int .i64 120)).bind fun x4 =>
 l3 x4 (
 some ((.o8 [(.str []),(.bool false)]),H)) (
 (qc R9 [(l4 H (strip a0))]).bind fun x8 =>
 (T3 .not x8).bind fun x9 =>
 l3 x9 (
 some ((.o8 [(strip (strip a0)),(.bool true)]),H)) (
 (p5 abZ [(strip (strip a0)),(.str []),(.int .i64 0)] H).bind fun r68 =>
 A5 r68.1 [
 l5 1 r68.2.1 fun v69 =>
 some ((.o8 [(v69 0),(.bool true)]),r68.2.2)])):=(l6 vb _ _ _ rfl).trans (by kernel_rfl)
noncomputable def acm:List V->VH->Option (Option Nat × List V × VH):=E2 (vb.ctx cv p5) (vb.b.I8 23) (vb.D7 23) ⟨⟨[0,3],[],[]⟩,[(.exit 0,⟨[0],[],[]⟩),(.ret,⟨[2],[],[]⟩)]⟩ (E5 Tryz.f23 2)
theorem aeD (v0 v1:V) (H:VH):acm [v0,v1] H =
 (a8 (.int .i64) .add v1 (.int .i64 1)).bind fun x3 =>
 (o9 v0).bind fun x5 =>
 (a8 (.int .i64) .lss x3 x5).bind fun x6 =>
 l3 x6 (
 (id (
 (p9 (strip v0) (strip v1)).bind fun x9 =>
 (a8 (.int .u8) .eql x9 (.int .u8 61)).bind fun x10 =>
 l9 x10 (
 (a8 (.int .i64) .add (strip (strip v1)) (.int .i64 1)).bind fun x14 =>
 (p9 (strip (strip v0)) x14).bind fun x15 =>
 (a8 (.int .u8) .eql x15 (.int .u8 63)).bind fun x16 =>
 l3 x16 (
 some (0,[(.bool true)],H)) (
 some (1,[(strip (strip (strip v0))),(strip (strip (strip v1)))],H))) (
 some (1,[(strip (strip v0)),(strip (strip v1))],H)):Option (Nat × List V × VH))).bind fun r20 =>
 A5 r20.1 [
 l5 1 r20.2.1 fun v21 =>
 some (some 1,[(v21 0)],r20.2.2),
 l5 2 r20.2.1 fun v22 =>
 (a8 (.int .i64) .add (v22 1) (.int .i64 1)).bind fun x24 =>
 some (none,[(v22 0),x24],r20.2.2)]) (
 some (some 0,[(strip v0)],H)):=by kernel_rfl
theorem ahi (a0:V) (H:VH):cv R9 [a0] H =
 (p5 acm [a0,(.int .i64 0)] H).bind fun r26 =>
 A5 r26.1 [
 l5 1 r26.2.1 fun v27 =>
 (qc aab [(l4 r26.2.2 (v27 0))]).bind fun x29 =>
 (T3 .not x29).bind fun x30 =>
 l9 x30 (
 some ((.bool true),r26.2.2)) (
 (qc Z0 [(l4 r26.2.2 (strip (v27 0)))]).bind fun x37 =>
 (a8 .str .neq x37 (strip (strip (v27 0)))).bind fun x39 =>
 l9 x39 (
 some ((.bool true),r26.2.2)) (
 (o9 (strip (strip (strip (v27 0))))).bind fun x45 =>
 (a8 (.int .i64) .gtr x45 (.int .i64 120)).bind fun x46 =>
 some (x46,r26.2.2))),
 l5 1 r26.2.1 fun v49 =>
 some ((v49 0),r26.2.2)]:=(l6 vb _ _ _ rfl).trans (by kernel_rfl)
noncomputable def R4:List V->VH->Option (Option Nat × List V × VH):=E2 (vb.ctx cv p5) (vb.b.I8 48) (vb.D7 48) ⟨⟨[0,3],[],[]⟩,[(.exit 0,⟨[0],[],[]⟩),(.ret,⟨[2],[],[]⟩)]⟩ (E5 Tryz.f48 2)
theorem aa5 (v0 v1:V) (H:VH):R4 [v0,v1] H =
 (id (
 (o9 v0).bind fun x4 =>
 (a8 (.int .i64) .lss v1 x4).bind fun x5 =>
 l9 x5 (
 (a8 (.int .i64) .leq (strip v1) (.int .i64 200)).bind fun x8 =>
 l3 x8 (
 some (0,[(strip v0),(strip (strip v1))],H)) (
 some (1,[(strip v0)],H))) (
 some (1,[(strip v0)],H)):Option (Nat × List V × VH))).bind fun r11 =>
 A5 r11.1 [
 l5 2 r11.2.1 fun v12 =>
 (id (
 (p9 (v12 0) (v12 1)).bind fun x15 =>
 (a8 (.int .u8) .lss x15 (.int .u8 32)).bind fun x16 =>
 l9 x16 (
 some (0,[(.bool false)],r11.2.2)) (
 (p9 (strip (v12 0)) (strip (v12 1))).bind fun x22 =>
 (a8 (.int .u8) .gtr x22 (.int .u8 126)).bind fun x23 =>
 l3 x23 (
 some (0,[(.bool false)],r11.2.2)) (
 some (1,[(strip (strip (v12 0))),(strip (strip (v12 1)))],r11.2.2))):Option (Nat × List V × VH))).bind fun r26 =>
 A5 r26.1 [
 l5 1 r26.2.1 fun v27 =>
 some (some 1,[(v27 0)],r26.2.2),
 l5 2 r26.2.1 fun v28 =>
 (a8 (.int .i64) .add (v28 1) (.int .i64 1)).bind fun x30 =>
 some (none,[(v28 0),x30],r26.2.2)],
 l5 1 r11.2.1 fun v32 =>
 some (some 0,[(v32 0)],r11.2.2)]:=by kernel_rfl
theorem ag1 (a0:V) (H:VH):cv aab [a0] H =
 (p5 R4 [a0,(.int .i64 0)] H).bind fun r33 =>
 A5 r33.1 [
 l5 1 r33.2.1 fun v34 =>
 (o9 (v34 0)).bind fun x36 =>
 (a8 (.int .i64) .leq x36 (.int .i64 200)).bind fun x37 =>
 some (x37,r33.2.2),
 l5 1 r33.2.1 fun v39 =>
 some ((v39 0),r33.2.2)]:=(l6 vb _ _ _ rfl).trans (by kernel_rfl)
noncomputable def aeh:List V->VH->Option (Option Nat × List V × VH):=E2 (vb.ctx cv p5) (vb.b.I8 50) (vb.D7 50) ⟨⟨[0],[],[]⟩,[(.exit 0,⟨[0],[],[]⟩)]⟩ (E5 Tryz.f50 1)
noncomputable def aev:List V->VH->Option (Option Nat × List V × VH):=E2 (vb.ctx cv p5) (vb.b.I8 50) (vb.D7 50) ⟨⟨[0],[],[]⟩,[(.exit 2,⟨[0],[],[]⟩)]⟩ (E5 Tryz.f50 3)
theorem ahf (v0:V) (H:VH):aeh [v0] H =
 (id (
 (o9 v0).bind fun x2 =>
 (a8 (.int .i64) .gtr x2 (.int .i64 0)).bind fun x3 =>
 l9 x3 (
 (p9 (strip v0) (.int .i64 0)).bind fun x6 =>
 (a8 (.int .u8) .eql x6 (.int .u8 32)).bind fun x7 =>
 l3 x7 (
 some (0,[(strip (strip v0))],H)) (
 some (1,[(strip (strip v0))],H))) (
 some (1,[(strip v0)],H)):Option (Nat × List V × VH))).bind fun r10 =>
 A5 r10.1 [
 l5 1 r10.2.1 fun v11 =>
 (w8 (v11 0) (some (.int .i64 1)) none).bind fun x13 =>
 some (none,[x13],r10.2.2),
 l5 1 r10.2.1 fun v15 =>
 some (some 0,[(v15 0)],r10.2.2)]:=by kernel_rfl
theorem ahb (v0:V) (H:VH):aev [v0] H =
 (id (
 (o9 v0).bind fun x19 =>
 (a8 (.int .i64) .gtr x19 (.int .i64 0)).bind fun x20 =>
 l9 x20 (
 (o9 (strip (strip v0))).bind fun x24 =>
 (a8 (.int .i64) .sub x24 (.int .i64 1)).bind fun x25 =>
 (p9 (strip v0) x25).bind fun x26 =>
 (a8 (.int .u8) .eql x26 (.int .u8 32)).bind fun x27 =>
 l3 x27 (
 some (0,[(strip (strip (strip v0)))],H)) (
 some (1,[(strip (strip (strip v0)))],H))) (
 some (1,[(strip v0)],H)):Option (Nat × List V × VH))).bind fun r30 =>
 A5 r30.1 [
 l5 1 r30.2.1 fun v31 =>
 (o9 (strip (v31 0))).bind fun x34 =>
 (a8 (.int .i64) .sub x34 (.int .i64 1)).bind fun x35 =>
 (w8 (v31 0) none (some x35)).bind fun x36 =>
 some (none,[x36],r30.2.2),
 l5 1 r30.2.1 fun v38 =>
 some (some 0,[(v38 0)],r30.2.2)]:=by kernel_rfl
theorem aj9 (a0:V) (H:VH):cv Z0 [a0] H =
 (p5 aeh [a0] H).bind fun r16 =>
 A5 r16.1 [
 l5 1 r16.2.1 fun v17 =>
 (p5 aev [(v17 0)] r16.2.2).bind fun r39 =>
 A5 r39.1 [
 l5 1 r39.2.1 fun v40 =>
 some ((v40 0),r39.2.2)]]:=(l6 vb _ _ _ rfl).trans (by kernel_rfl)
noncomputable def ad0:List V->VH->Option (Option Nat × List V × VH):=E2 (vb.ctx cv p5) (vb.b.I8 24) (vb.D7 24) ⟨⟨[0,3,4],[],[]⟩,[(.exit 0,⟨[3],[],[]⟩)]⟩ (E5 Tryz.f24 3)
theorem ag9 (v0 v1 v2:V) (H:VH):ad0 [v0,v1,v2] H =
 (o9 v0).bind fun x5 =>
 (a8 (.int .i64) .lss v2 x5).bind fun x6 =>
 l3 x6 (
 (p9 (strip v0) (strip v2)).bind fun x10 =>
 (qc abq [(l4 H x10)]).bind fun x11 =>
 (a8 .str .add v1 x11).bind fun x12 =>
 (a8 (.int .i64) .add (strip (strip v2)) (.int .i64 1)).bind fun x15 =>
 some (none,[(strip (strip v0)),x12,x15],H)) (
 some (some 0,[v1],H)):=by kernel_rfl
theorem aj3 (a0:V) (H:VH):cv S1 [a0] H =
 (p5 ad0 [a0,(.str []),(.int .i64 0)] H).bind fun r17 =>
 A5 r17.1 [
 l5 1 r17.2.1 fun v18 =>
 some ((v18 0),r17.2.2)]:=(l6 vb _ _ _ rfl).trans (by kernel_rfl)
theorem akh (a0:V) (H:VH):cv abq [a0] H =
 (a8 (.int .u8) .eql a0 (.int .u8 32)).bind fun x2 =>
 l3 x2 (
 some ((.str [95]),H)) (
 (id (
 (qc aaD [(l4 H (strip a0))]).bind fun x5 =>
 l9 x5 (
 (C3 (strip (strip a0))).bind fun y12 =>
 (aae (.sl true [[y12]]) H).bind fun x13 =>
 some (0,[x13],H)) (
 (a8 (.int .u8) .eql (strip (strip a0)) (.int .u8 45)).bind fun x16 =>
 l9 x16 (
 (C3 (strip (strip (strip a0)))).bind fun y22 =>
 (aae (.sl true [[y22]]) H).bind fun x23 =>
 some (0,[x23],H)) (
 (a8 (.int .u8) .eql (strip (strip (strip a0))) (.int .u8 46)).bind fun x26 =>
 l3 x26 (
 (C3 (strip (strip (strip (strip a0))))).bind fun y30 =>
 (aae (.sl true [[y30]]) H).bind fun x31 =>
 some (0,[x31],H)) (
 some (1,[(strip (strip (strip (strip a0))))],H)))):Option (Nat × List V × VH))).bind fun r33 =>
 A5 r33.1 [
 l5 1 r33.2.1 fun v34 =>
 some ((v34 0),r33.2.2),
 l5 1 r33.2.1 fun v35 =>
 (qc acd [(l4 r33.2.2 (v35 0))]).bind fun x37 =>
 some (x37,r33.2.2)]):=(l6 vb _ _ _ rfl).trans (by kernel_rfl)
theorem ah2 (a0:V) (H:VH):cv aaD [a0] H =
 (a8 (.int .u8) .geq a0 (.int .u8 97)).bind fun x2 =>
 l9 x2 (
 (a8 (.int .u8) .leq (strip a0) (.int .u8 122)).bind fun x5 =>
 l9 x5 (
 some ((.bool true),H)) (
 (a8 (.int .u8) .geq (strip (strip a0)) (.int .u8 65)).bind fun x13 =>
 l9 x13 (
 (a8 (.int .u8) .leq (strip (strip (strip a0))) (.int .u8 90)).bind fun x16 =>
 l9 x16 (
 some ((.bool true),H)) (
 (a8 (.int .u8) .geq (strip (strip (strip (strip a0)))) (.int .u8 48)).bind fun x23 =>
 l9 x23 (
 (a8 (.int .u8) .leq (strip (strip (strip (strip (strip a0))))) (.int .u8 57)).bind fun x26 =>
 some (x26,H)) (
 some ((.bool false),H)))) (
 (a8 (.int .u8) .geq (strip (strip (strip a0))) (.int .u8 48)).bind fun x37 =>
 l9 x37 (
 (a8 (.int .u8) .leq (strip (strip (strip (strip a0)))) (.int .u8 57)).bind fun x40 =>
 some (x40,H)) (
 some ((.bool false),H))))) (
 (a8 (.int .u8) .geq (strip a0) (.int .u8 65)).bind fun x50 =>
 l9 x50 (
 (a8 (.int .u8) .leq (strip (strip a0)) (.int .u8 90)).bind fun x53 =>
 l9 x53 (
 some ((.bool true),H)) (
 (a8 (.int .u8) .geq (strip (strip (strip a0))) (.int .u8 48)).bind fun x60 =>
 l9 x60 (
 (a8 (.int .u8) .leq (strip (strip (strip (strip a0)))) (.int .u8 57)).bind fun x63 =>
 some (x63,H)) (
 some ((.bool false),H)))) (
 (a8 (.int .u8) .geq (strip (strip a0)) (.int .u8 48)).bind fun x74 =>
 l9 x74 (
 (a8 (.int .u8) .leq (strip (strip (strip a0))) (.int .u8 57)).bind fun x77 =>
 some (x77,H)) (
 some ((.bool false),H)))):=(l6 vb _ _ _ rfl).trans (by kernel_rfl)
theorem ak1 (a0:V) (H:VH):cv acd [a0] H =
 (a8 (.int .u8) .shr a0 (.int .u64 4)).bind fun x2 =>
 (a8 (.int .u8) .shr (strip a0) (.int .u64 4)).bind fun x4 =>
 (a8 (.int .u8) .add x4 (.int .u8 1)).bind fun x5 =>
 (w8 (.str [48,49,50,51,52,53,54,55,56,57,65,66,67,68,69,70]) (some x2) (some x5)).bind fun x6 =>
 (a8 .str .add (.str [61]) x6).bind fun x7 =>
 (a8 (.int .u8) .and (strip (strip a0)) (.int .u8 15)).bind fun x9 =>
 (a8 (.int .u8) .and (strip (strip (strip a0))) (.int .u8 15)).bind fun x11 =>
 (a8 (.int .u8) .add x11 (.int .u8 1)).bind fun x12 =>
 (w8 (.str [48,49,50,51,52,53,54,55,56,57,65,66,67,68,69,70]) (some x9) (some x12)).bind fun x13 =>
 (a8 .str .add x7 x13).bind fun x14 =>
 some (x14,H):=(l6 vb _ _ _ rfl).trans (by kernel_rfl)
theorem ahP (a0:V) (H:VH):cv aaA [a0] H =
 (id (
 (o9 a0).bind fun x3 =>
 (a8 (.int .i64) .lss x3 (.int .i64 1)).bind fun x4 =>
 l9 x4 (
 some (0,[(.str []),(.bool false)],H)) (
 (o9 (strip a0)).bind fun x10 =>
 (a8 (.int .i64) .gtr x10 (.int .i64 40)).bind fun x11 =>
 l3 x11 (
 some (0,[(.str []),(.bool false)],H)) (
 some (1,[(strip (strip a0))],H))):Option (Nat × List V × VH))).bind fun r15 =>
 A5 r15.1 [
 l5 2 r15.2.1 fun v16 =>
 some ((.o8 [(v16 0),(v16 1)]),r15.2.2),
 l5 1 r15.2.1 fun v17 =>
 (qc S1 [(l4 r15.2.2 (v17 0))]).bind fun x19 =>
 (a8 .str .add (.str [61,63,117,116,102,45,56,63,113,63]) x19).bind fun x20 =>
 (a8 .str .add x20 (.str [63,61])).bind fun x21 =>
 (o9 x21).bind fun x24 =>
 (a8 (.int .i64) .gtr x24 (.int .i64 40)).bind fun x25 =>
 l3 x25 (
 some ((.o8 [(.str []),(.bool false)]),r15.2.2)) (
 some ((.o8 [(strip x21),(.bool true)]),r15.2.2))]:=(l6 vb _ _ _ rfl).trans (by kernel_rfl)
noncomputable def ack:List V->VH->Option (Option Nat × List V × VH):=E2 (vb.ctx cv p5) (vb.b.I8 9) (vb.D7 9) ⟨⟨[3,4,12,13,14],[],[]⟩,[(.exit 0,⟨[4],[],[]⟩),(.ret,⟨[2],[],[]⟩)]⟩ (E5 Tryz.f9 5)
theorem ae7 (v0 v1 v2 v3 v4:V) (H:VH):ack [v0,v1,v2,v3,v4] H =
 (a8 (.int .i64) .lss v4 v3).bind fun x15 =>
 l3 x15 (
 (M0 1 v2 (strip v4)).bind fun x17 =>
 (L8 I2 false false 1 x17 H).bind fun r19 =>
 (a8 .str .eql r19.1 (.str [])).bind fun x23 =>
 l3 x23 (
 (a8 (.int .i64) .add (strip v4) (.int .i64 1)).bind fun x24 =>
 some (none,[v0,v1,v2,v3,x24],r19.2)) (
 (id (
 (a8 (.int .i64) .geq v4 (.int .i64 200)).bind fun x27 =>
 l9 x27 (
 (a8 .str .add v1 (.str [102,117,108,108,10])).bind fun x31 =>
 some (0,[x31],r19.2)) (
 (o9 v1).bind fun x34 =>
 (a8 (.int .i64) .gtr x34 (.int .i64 40000)).bind fun x35 =>
 l3 x35 (
 (a8 .str .add (strip v1) (.str [102,117,108,108,10])).bind fun x38 =>
 some (0,[x38],r19.2)) (
 some (1,[v0,(strip v1),(strip r19.1),v2,v3,(strip v4)],r19.2))):Option (Nat × List V × VH))).bind fun r40 =>
 A5 r40.1 [
 l5 1 r40.2.1 fun v41 =>
 some (some 1,[(v41 0)],r40.2.2),
 l5 6 r40.2.1 fun v42 =>
 (cv S0 [(strip (v42 0)),(strip (v42 2))] r40.2.2).bind fun r46 =>
 (a8 .str .add (v42 1) r46.1).bind fun x47 =>
 (a8 (.int .i64) .add (v42 5) (.int .i64 1)).bind fun x49 =>
 some (none,[(v42 0),x47,(v42 3),(v42 4),x49],r46.2)])) (
 some (some 0,[v1],H)):=by kernel_rfl
theorem ahc (a0:V) (H:VH):cv I4 [a0] H =
 (o9 a0).bind fun x2 =>
 (a8 (.int .i64) .gtr x2 (.int .i64 20000)).bind fun x3 =>
 l3 x3 (
 some ((.str [108,111,110,103,10]),H)) (
 (pc aaS []).bind fun x5 =>
 (P9 14 x5).bind fun c8 =>
 (stO (.ptr H.length 0) [(c8.getD 0 .b7),(c8.getD 1 .b7),(c8.getD 2 .b7),(c8.getD 3 .b7),(c8.getD 4 .b7),(c8.getD 5 .b7),(c8.getD 6 .b7),(c8.getD 7 .b7),(c8.getD 8 .b7),(c8.getD 9 .b7),(c8.getD 10 .b7),(c8.getD 11 .b7),(c8.getD 12 .b7),(c8.getD 13 .b7)] (H++[[(.sl true []),(.int .i64 0),(.str []),(.str []),(.sl true []),(.sl true []),(.sl true []),(.int .i64 0),(.int .i64 0),(.int .i64 0),(.int .i64 0),(.int .i64 0),(.int .i64 0),(.int .i64 0)]])).bind fun H9 =>
 (pc K0 [(l4 H9 (strip a0)),(l4 H9 (.str [10]))]).bind fun x12 =>
 (J7 x12).bind fun x13 =>
 (p5 ack [(.ptr H.length 0),(.str []),x12,x13,(.int .i64 0)] H9).bind fun r51 =>
 A5 r51.1 [
 l5 1 r51.2.1 fun v52 =>
 some ((v52 0),r51.2.2),
 l5 1 r51.2.1 fun v55 =>
 some ((v55 0),r51.2.2)]):=(l6 vb _ _ _ rfl).trans (by kernel_rfl)
theorem ajc (H:VH):cv aaS [] H =
 (pc Y0 [(l4 H (.int .i64 1767593289)),(l4 H (.int .i64 60))]).bind fun x1 =>
 (y4 x1 0).bind fun x3 =>
 (y4 x1 1).bind fun x4 =>
 (P9 7 (strip x3)).bind fun c7 =>
 some ((.agg [(.sl true []),(.int .i64 0),(.str []),(.str []),(.sl true []),(.sl true []),(.sl true []),(strip (c7.getD 0 .b7)),(strip (c7.getD 1 .b7)),(strip (c7.getD 2 .b7)),(strip (c7.getD 3 .b7)),(strip (c7.getD 4 .b7)),(strip (c7.getD 5 .b7)),(strip (c7.getD 6 .b7))]),H):=(l6 vb _ _ _ rfl).trans (by kernel_rfl)
noncomputable def aed:List V->VH->Option (Option Nat × List V × VH):=E2 (vb.ctx cv p5) (vb.b.I8 63) (vb.D7 63) ⟨⟨[7],[(4,(4,0)),(9,(9,0))],[(4,7),(9,7)]⟩,[(.exit 0,⟨[7],[(4,(4,0)),(9,(9,0))],[(4,7),(9,7)]⟩)]⟩ (E5 Tryz.f63 8)
theorem ahj (v0 v1 v2 v3 v4 v5 v6 v7 v8 v9 v10 v11 v12 v13 v14:V) (H:VH):aed [v0,v1,v2,v3,v4,v5,v6,v7,v8,v9,v10,v11,v12,v13,v14] H =
 (id (
 (a8 (.int .i64) .leq (strip v8) (.int .i64 2099)).bind fun x53 =>
 l9 x53 (
 (qc M9 [(l4 H (strip v8)),(l4 H (strip v9))]).bind fun x60 =>
 (a8 (.int .i64) .geq v0 x60).bind fun x61 =>
 l3 x61 (
 some (0,[(strip v0),v1,v2,v3,v4,v5,v6,v7,v8,v9,v10,v11,v12,v13,v14],H)) (
 some (1,[(strip v0),v1,v2,v3,v4,v5,v6,v7,v8,v9,v10,v11,v12,v13,v14],H))) (
 some (1,[v0,v1,v2,v3,v4,v5,v6,v7,v8,v9,v10,v11,v12,v13,v14],H)):Option (Nat × List V × VH))).bind fun r64 =>
 A5 r64.1 [
 l5 15 r64.2.1 fun v65 =>
 (qc M9 [(l4 r64.2.2 (strip (v65 8))),(l4 r64.2.2 (strip (v65 9)))]).bind fun x71 =>
 (a8 (.int .i64) .sub (v65 0) x71).bind fun x72 =>
 (a8 (.int .i64) .add (strip (v65 9)) (.int .i64 1)).bind fun x76 =>
 (C3 x76).bind fun y79 =>
 (a8 (.int .i64) .gtr (strip y79) (.int .i64 12)).bind fun x82 =>
 l3 x82 (
 (a8 (.int .i64) .add (strip (v65 8)) (.int .i64 1)).bind fun x85 =>
 (C3 x85).bind fun y88 =>
 some (none,[x72,(v65 1),(v65 2),(v65 3),(v65 4),(v65 5),(v65 6),(v65 7),y88,(.int .i64 1),(v65 10),(v65 11),(v65 12),(v65 13),(v65 14)],r64.2.2)) (
 some (none,[x72,(v65 1),(v65 2),(v65 3),(v65 4),(v65 5),(v65 6),(v65 7),(v65 8),y79,(v65 10),(v65 11),(v65 12),(v65 13),(v65 14)],r64.2.2)),
 l5 15 r64.2.1 fun v91 =>
 some (some 0,[(v91 0),(v91 1),(v91 2),(v91 3),(v91 4),(v91 5),(v91 6),(v91 7),(v91 8),(v91 9),(v91 10),(v91 11),(v91 12),(v91 13),(v91 14)],r64.2.2)]:=by kernel_rfl
theorem akl (a0 a1:V) (H:VH):cv Y0 [a0,a1] H =
 (id (
 (qc D5 [(l4 H a0),(l4 H (.int .i64 0)),(l4 H (.int .i64 4102444799))]).bind fun x3 =>
 (T3 .not x3).bind fun x4 =>
 l9 x4 (
 some (0,[(.bool false),(.int .i64 0),(.int .i64 0),(.int .i64 0),(.int .i64 0),(.int .i64 0),(.int .i64 0),(.int .i64 0)],H)) (
 (qc Y4 [(l4 H a1)]).bind fun x11 =>
 (T3 .not x11).bind fun x12 =>
 l3 x12 (
 some (0,[(.bool false),(.int .i64 0),(.int .i64 0),(.int .i64 0),(.int .i64 0),(.int .i64 0),(.int .i64 0),(.int .i64 0)],H)) (
 some (1,[(strip a0),(strip a1),(.int .i64 0),(.int .i64 0),(.int .i64 0),(.int .i64 0),(.int .i64 0),(.int .i64 0),(.int .i64 0)],H))):Option (Nat × List V × VH))).bind fun r17 =>
 A5 r17.1 [
 l5 8 r17.2.1 fun v18 =>
 some ((.o8 [(.agg [(v18 1),(v18 2),(v18 3),(v18 4),(v18 5),(v18 6),(v18 7)]),(v18 0)]),r17.2.2),
 l5 9 r17.2.1 fun v19 =>
 (a8 (.int .i64) .mul (v19 1) (.int .i64 60)).bind fun x22 =>
 (a8 (.int .i64) .add (v19 0) x22).bind fun x23 =>
 (a8 (.int .i64) .lss x23 (.int .i64 0)).bind fun x26 =>
 l3 x26 (
 some ((.o8 [(.agg [(.int .i64 0),(.int .i64 0),(.int .i64 0),(.int .i64 0),(.int .i64 0),(.int .i64 0),(.int .i64 0)]),(.bool false)]),r17.2.2)) (
 (a8 (.int .i64) .quo (strip x23) (.int .i64 86400)).bind fun x31 =>
 (a8 (.int .i64) .rem (strip (strip x23)) (.int .i64 86400)).bind fun x33 =>
 (a8 (.int .i64) .quo x33 (.int .i64 3600)).bind fun x37 =>
 (a8 (.int .i64) .quo (strip x33) (.int .i64 60)).bind fun x39 =>
 (a8 (.int .i64) .rem x39 (.int .i64 60)).bind fun x40 =>
 (a8 (.int .i64) .rem (strip (strip x33)) (.int .i64 60)).bind fun x42 =>
 (C3 x37).bind fun y45 =>
 (C3 x40).bind fun y46 =>
 (C3 x42).bind fun y47 =>
 (C3 (strip (v19 1))).bind fun y48 =>
 (p5 aed [x31,(v19 2),(v19 3),(v19 4),(v19 5),(v19 6),(v19 7),(v19 8),(.int .i64 1970),(.int .i64 1),(.int .i64 0),y45,y46,y47,y48] r17.2.2).bind fun r92 =>
 A5 r92.1 [
 l5 15 r92.2.1 fun v93 =>
 (a8 (.int .i64) .add (v93 0) (.int .i64 1)).bind fun x95 =>
 (C3 x95).bind fun y98 =>
 (qc R1 [(l4 r92.2.2 (.agg [(strip (v93 8)),(strip (v93 9)),(strip y98),(strip (v93 11)),(strip (v93 12)),(strip (v93 13)),(strip (v93 14))]))]).bind fun x100 =>
 (T3 .not x100).bind fun x101 =>
 l3 x101 (
 some ((.o8 [(.agg [(.int .i64 0),(.int .i64 0),(.int .i64 0),(.int .i64 0),(.int .i64 0),(.int .i64 0),(.int .i64 0)]),(.bool false)]),r92.2.2)) (
 some ((.o8 [(.agg [(strip (v93 8)),(strip (v93 9)),(strip y98),(strip (v93 11)),(strip (v93 12)),(strip (v93 13)),(strip (v93 14))]),(.bool true)]),r92.2.2))])]:=(l6 vb _ _ _ rfl).trans (by kernel_rfl)
theorem aiQ (a0 a1 a2:V) (H:VH):cv D5 [a0,a1,a2] H =
 (a8 (.int .i64) .geq a0 a1).bind fun x3 =>
 l9 x3 (
 (a8 (.int .i64) .leq (strip a0) a2).bind fun x7 =>
 some (x7,H)) (
 some ((.bool false),H)):=(l6 vb _ _ _ rfl).trans (by kernel_rfl)
theorem ajD (a0:V) (H:VH):cv Y4 [a0] H =
 (qc D5 [(l4 H a0),(l4 H (.int .i64 (-720))),(l4 H (.int .i64 840))]).bind fun x2 =>
 some (x2,H):=(l6 vb _ _ _ rfl).trans (by kernel_rfl)
theorem akf (a0 a1:V) (H:VH):cv M9 [a0,a1] H =
 (id (
 (a8 (.int .i64) .lss a0 (.int .i64 1970)).bind fun x2 =>
 l9 x2 (
 some (0,[(.int .i64 0)],H)) (
 (a8 (.int .i64) .gtr (strip a0) (.int .i64 2099)).bind fun x7 =>
 l3 x7 (
 some (0,[(.int .i64 0)],H)) (
 some (1,[(strip (strip a0)),a1],H))):Option (Nat × List V × VH))).bind fun r10 =>
 A5 r10.1 [
 l5 1 r10.2.1 fun v11 =>
 some ((v11 0),r10.2.2),
 l5 2 r10.2.1 fun v12 =>
 (id (
 (a8 (.int .i64) .eql (v12 1) (.int .i64 1)).bind fun x14 =>
 l3 x14 (
 some (0,[(v12 0),(v12 1),x14],r10.2.2)) (
 (a8 (.int .i64) .eql (v12 1) (.int .i64 3)).bind fun x16 =>
 l3 x16 (
 some (0,[(v12 0),(v12 1),x16],r10.2.2)) (
 (a8 (.int .i64) .eql (v12 1) (.int .i64 5)).bind fun x18 =>
 l3 x18 (
 some (0,[(v12 0),(v12 1),x18],r10.2.2)) (
 (a8 (.int .i64) .eql (v12 1) (.int .i64 7)).bind fun x20 =>
 l3 x20 (
 some (0,[(v12 0),(v12 1),x20],r10.2.2)) (
 (a8 (.int .i64) .eql (v12 1) (.int .i64 8)).bind fun x22 =>
 l3 x22 (
 some (0,[(v12 0),(v12 1),x22],r10.2.2)) (
 (a8 (.int .i64) .eql (v12 1) (.int .i64 10)).bind fun x24 =>
 l3 x24 (
 some (0,[(v12 0),(v12 1),x24],r10.2.2)) (
 (a8 (.int .i64) .eql (v12 1) (.int .i64 12)).bind fun x26 =>
 some (0,[(v12 0),(v12 1),x26],r10.2.2))))))):Option (Nat × List V × VH))).bind fun r28 =>
 A5 r28.1 [
 l5 3 r28.2.1 fun v29 =>
 l3 (v29 2) (
 some ((.int .i64 31),r28.2.2)) (
 (id (
 (a8 (.int .i64) .eql (v29 1) (.int .i64 4)).bind fun x31 =>
 l3 x31 (
 some (0,[(v29 0),(v29 1),x31],r28.2.2)) (
 (a8 (.int .i64) .eql (v29 1) (.int .i64 6)).bind fun x33 =>
 l3 x33 (
 some (0,[(v29 0),(v29 1),x33],r28.2.2)) (
 (a8 (.int .i64) .eql (v29 1) (.int .i64 9)).bind fun x35 =>
 l3 x35 (
 some (0,[(v29 0),(v29 1),x35],r28.2.2)) (
 (a8 (.int .i64) .eql (v29 1) (.int .i64 11)).bind fun x37 =>
 some (0,[(v29 0),(v29 1),x37],r28.2.2)))):Option (Nat × List V × VH))).bind fun r39 =>
 A5 r39.1 [
 l5 3 r39.2.1 fun v40 =>
 l3 (v40 2) (
 some ((.int .i64 30),r39.2.2)) (
 (a8 (.int .i64) .eql (v40 1) (.int .i64 2)).bind fun x42 =>
 l3 x42 (
 (a8 (.int .i64) .rem (v40 0) (.int .i64 4)).bind fun x45 =>
 (a8 (.int .i64) .eql x45 (.int .i64 0)).bind fun x46 =>
 l9 x46 (
 (a8 (.int .i64) .rem (strip (v40 0)) (.int .i64 100)).bind fun x49 =>
 (a8 (.int .i64) .neq x49 (.int .i64 0)).bind fun x50 =>
 l9 x50 (
 some ((.int .i64 29),r39.2.2)) (
 (a8 (.int .i64) .rem (strip (strip (v40 0))) (.int .i64 400)).bind fun x56 =>
 (a8 (.int .i64) .eql x56 (.int .i64 0)).bind fun x57 =>
 l3 x57 (
 some ((.int .i64 29),r39.2.2)) (
 some ((.int .i64 28),r39.2.2)))) (
 (a8 (.int .i64) .rem (strip (v40 0)) (.int .i64 400)).bind fun x64 =>
 (a8 (.int .i64) .eql x64 (.int .i64 0)).bind fun x65 =>
 l3 x65 (
 some ((.int .i64 29),r39.2.2)) (
 some ((.int .i64 28),r39.2.2)))) (
 some ((.int .i64 0),r39.2.2)))])]]:=(l6 vb _ _ _ rfl).trans (by kernel_rfl)
theorem ag4 (a0:V) (H:VH):cv R1 [a0] H =
 (P9 7 a0).bind fun c1 =>
 (qc M9 [(l4 H (strip (c1.getD 0 .b7))),(l4 H (strip (c1.getD 1 .b7)))]).bind fun x9 =>
 (qc D5 [(l4 H (strip (c1.getD 2 .b7))),(l4 H (.int .i64 1)),(l4 H x9)]).bind fun x10 =>
 l9 x10 (
 (qc D5 [(l4 H (strip (c1.getD 3 .b7))),(l4 H (.int .i64 0)),(l4 H (.int .i64 23))]).bind fun x14 =>
 l9 x14 (
 (qc D5 [(l4 H (strip (c1.getD 4 .b7))),(l4 H (.int .i64 0)),(l4 H (.int .i64 59))]).bind fun x19 =>
 l9 x19 (
 (qc D5 [(l4 H (strip (c1.getD 5 .b7))),(l4 H (.int .i64 0)),(l4 H (.int .i64 59))]).bind fun x24 =>
 l9 x24 (
 (qc Y4 [(l4 H (strip (c1.getD 6 .b7)))]).bind fun x29 =>
 l9 x29 (
 (qc T9 [(l4 H (.agg [(strip (c1.getD 0 .b7)),(strip (c1.getD 1 .b7)),(strip (c1.getD 2 .b7)),(strip (c1.getD 3 .b7)),(strip (c1.getD 4 .b7)),(strip (c1.getD 5 .b7)),(strip (c1.getD 6 .b7))]))]).bind fun x33 =>
 (qc D5 [(l4 H x33),(l4 H (.int .i64 0)),(l4 H (.int .i64 4102444799))]).bind fun x34 =>
 some (x34,H)) (
 some ((.bool false),H))) (
 some ((.bool false),H))) (
 some ((.bool false),H))) (
 some ((.bool false),H))) (
 some ((.bool false),H)):=(l6 vb _ _ _ rfl).trans (by kernel_rfl)
theorem aeF (a0:V) (H:VH):cv T9 [a0] H =
 (P9 7 a0).bind fun c1 =>
 (qc P5 [(l4 H (strip (c1.getD 0 .b7))),(l4 H (strip (c1.getD 1 .b7))),(l4 H (strip (c1.getD 2 .b7)))]).bind fun x9 =>
 (a8 (.int .i64) .mul x9 (.int .i64 86400)).bind fun x10 =>
 (a8 (.int .i64) .mul (strip (c1.getD 3 .b7)) (.int .i64 3600)).bind fun x13 =>
 (a8 (.int .i64) .add x10 x13).bind fun x14 =>
 (a8 (.int .i64) .mul (strip (c1.getD 4 .b7)) (.int .i64 60)).bind fun x17 =>
 (a8 (.int .i64) .add x14 x17).bind fun x18 =>
 (a8 (.int .i64) .add x18 (strip (c1.getD 5 .b7))).bind fun x21 =>
 (a8 (.int .i64) .mul (strip (c1.getD 6 .b7)) (.int .i64 60)).bind fun x24 =>
 (a8 (.int .i64) .sub x21 x24).bind fun x25 =>
 some (x25,H):=(l6 vb _ _ _ rfl).trans (by kernel_rfl)
noncomputable def W4:List V->VH->Option (Option Nat × List V × VH):=E2 (vb.ctx cv p5) (vb.b.I8 175) (vb.D7 175) ⟨⟨[0,1,7,8,9],[],[]⟩,[(.exit 2,⟨[0,1,7,8],[],[]⟩)]⟩ (E5 Tryz.f175 6)
noncomputable def abK:List V->VH->Option (Option Nat × List V × VH):=E2 (vb.ctx cv p5) (vb.b.I8 175) (vb.D7 175) ⟨⟨[0,1,7,8],[],[]⟩,[(.exit 0,⟨[7],[],[]⟩)]⟩ (E5 Tryz.f175 3)
theorem aea (v0 v1 v2 v3 v4:V) (H:VH):W4 [v0,v1,v2,v3,v4] H =
 (id (
 (a8 (.int .i64) .leq v4 (.int .i64 12)).bind fun x10 =>
 l9 x10 (
 (a8 (.int .i64) .lss v3 v0).bind fun x14 =>
 l9 x14 (
 some (0,[(strip v0),v1,v2,(strip v3),(strip v4)],H)) (
 (a8 (.int .i64) .lss (strip v4) v1).bind fun x20 =>
 l3 x20 (
 some (0,[(strip v0),(strip v1),v2,(strip v3),(strip (strip v4))],H)) (
 some (1,[(strip v0),(strip v1),v2,(strip v3)],H)))) (
 some (1,[v0,v1,v2,v3],H)):Option (Nat × List V × VH))).bind fun r24 =>
 A5 r24.1 [
 l5 5 r24.2.1 fun v25 =>
 (qc M9 [(l4 r24.2.2 (v25 3)),(l4 r24.2.2 (v25 4))]).bind fun x29 =>
 (a8 (.int .i64) .add (v25 2) x29).bind fun x30 =>
 (a8 (.int .i64) .add (strip (v25 4)) (.int .i64 1)).bind fun x33 =>
 some (none,[(v25 0),(v25 1),x30,(strip (v25 3)),x33],r24.2.2),
 l5 4 r24.2.1 fun v35 =>
 some (some 0,[(v35 0),(v35 1),(v35 2),(v35 3)],r24.2.2)]:=by kernel_rfl
theorem aep (v0 v1 v2 v3:V) (H:VH):abK [v0,v1,v2,v3] H =
 (a8 (.int .i64) .leq v3 v0).bind fun x7 =>
 l3 x7 (
 (p5 W4 [(strip v0),v1,v2,(strip v3),(.int .i64 1)] H).bind fun r36 =>
 A5 r36.1 [
 l5 4 r36.2.1 fun v37 =>
 (a8 (.int .i64) .add (v37 3) (.int .i64 1)).bind fun x39 =>
 some (none,[(v37 0),(v37 1),(v37 2),x39],r36.2.2)]) (
 some (some 0,[v2],H)):=by kernel_rfl
theorem agh (a0 a1 a2:V) (H:VH):cv P5 [a0,a1,a2] H =
 (a8 (.int .i64) .sub a2 (.int .i64 1)).bind fun x2 =>
 (p5 abK [a0,a1,x2,(.int .i64 1970)] H).bind fun r41 =>
 A5 r41.1 [
 l5 1 r41.2.1 fun v42 =>
 some ((v42 0),r41.2.2)]:=(l6 vb _ _ _ rfl).trans (by kernel_rfl)
theorem ahM (a0 a1:V) (H:VH):cv K0 [a0,a1] H =
 (pcg N6 H [a0,a1,(.int .i64 0),(.int .i64 (-1))]).bind fun r4 =>
 some (r4.1,r4.2):=(l6 vb _ _ _ rfl).trans (by kernel_rfl)
noncomputable def M4:List V->VH->Option (Option Nat × List V × VH):=E2 (vb.ctx cv p5) (vb.b.I8 64) (vb.D7 64) ⟨⟨[0,1,2,3,9,10],[],[]⟩,[(.exit 0,⟨[0,9,10],[],[]⟩)]⟩ (E5 Tryz.f64 11)
theorem Z9 (v0 v1 v2 v3 v4 v5:V) (H:VH):M4 [v0,v1,v2,v3,v4,v5] H =
 (a8 (.int .i64) .lss v5 v3).bind fun x34 =>
 l3 x34 (
 (qc aaF [(l4 H v0),(l4 H v1)]).bind fun x37 =>
 (a8 (.int .i64) .lss x37 (.int .i64 0)).bind fun x40 =>
 l3 x40 (
 some (some 0,[(strip v0),v4,(strip v5)],H)) (
 (a8 (.int .i64) .add (strip x37) v2).bind fun x46 =>
 (w8 (strip v0) none (some x46)).bind fun x47 =>
 (M0 1 (strip v4) (strip v5)).bind fun x48 =>
 (C3 x47).bind fun y50 =>
 (stO x48 [y50] H).bind fun H51 =>
 (o9 (strip v1)).bind fun x55 =>
 (a8 (.int .i64) .add (strip (strip x37)) x55).bind fun x56 =>
 (w8 (strip (strip v0)) (some x56) none).bind fun x57 =>
 (a8 (.int .i64) .add (strip (strip v5)) (.int .i64 1)).bind fun x60 =>
 some (none,[x57,(strip (strip v1)),(strip v2),(strip v3),v4,x60],H51))) (
 some (some 0,[v0,v4,(strip v5)],H)):=by kernel_rfl
theorem afw (a0 a1 a2 a3:V) (H:VH):cv N6 [a0,a1,a2,a3] H =
 (a8 (.int .i64) .eql a3 (.int .i64 0)).bind fun x2 =>
 l3 x2 (
 some ((.sl true []),H)) (
 (a8 .str .eql a1 (.str [])).bind fun x5 =>
 l3 x5 (
 (pc agi [(l4 H a0),(l4 H (strip a3))]).bind fun x8 =>
 some (x8,H)) (
 (id (
 (a8 (.int .i64) .lss (strip a3) (.int .i64 0)).bind fun x11 =>
 l3 x11 (
 (qc aay [(l4 H a0),(l4 H (strip a1))]).bind fun x14 =>
 (a8 (.int .i64) .add x14 (.int .i64 1)).bind fun x15 =>
 some (0,[(strip a0),(strip (strip a1)),a2,x15],H)) (
 some (0,[a0,(strip a1),a2,(strip (strip a3))],H)):Option (Nat × List V × VH))).bind fun r17 =>
 A5 r17.1 [
 l5 4 r17.2.1 fun v18 =>
 (o9 (v18 0)).bind fun x21 =>
 (a8 (.int .i64) .add x21 (.int .i64 1)).bind fun x22 =>
 (agJ (v18 3) x22).bind fun x23 =>
 (afM 16 x23 x23).bind fun x26 =>
 (a8 (.int .i64) .sub (strip x23) (.int .i64 1)).bind fun x29 =>
 (p5 M4 [(strip (v18 0)),(v18 1),(v18 2),x29,(.A9 r17.2.2.length 0 x26.1 1),(.int .i64 0)] (r17.2.2++[X8 x26.2 [(.str [])]])).bind fun r62 =>
 A5 r62.1 [
 l5 3 r62.2.1 fun v63 =>
 (M0 1 (strip (v63 1)) (v63 2)).bind fun x67 =>
 (C3 (v63 0)).bind fun y69 =>
 (stO x67 [y69] r62.2.2).bind fun H70 =>
 (a8 (.int .i64) .add (strip (v63 2)) (.int .i64 1)).bind fun x73 =>
 (Q2 1 (strip (v63 1)) none (some x73)).bind fun x74 =>
 some (x74,H70)]])):=(l6 vb _ _ _ rfl).trans (by kernel_rfl)
noncomputable def ahI:List V->VH->Option (Option Nat × List V × VH):=E2 (vb.ctx cv p5) (vb.b.I8 112) (vb.D7 112) ⟨⟨[0,1,5],[],[]⟩,[(.ret,⟨[4],[],[]⟩)]⟩ (E5 Tryz.f112 6)
theorem ahN (a0 a1:V) (H:VH):cv aay [a0,a1] H =
 (o9 a1).bind fun x2 =>
 (a8 (.int .i64) .eql x2 (.int .i64 0)).bind fun x3 =>
 l3 x3 (
 (qc aaj [(l4 H a0)]).bind fun x5 =>
 (a8 (.int .i64) .add x5 (.int .i64 1)).bind fun x6 =>
 some (x6,H)) (
 (o9 (strip a1)).bind fun x9 =>
 (a8 (.int .i64) .eql x9 (.int .i64 1)).bind fun x10 =>
 l3 x10 (
 (p9 (strip (strip a1)) (.int .i64 0)).bind fun x13 =>
 (aib 1 [a0,x13] fun x14 =>
  some (x14,H))) (
 (p5 ahI [a0,(strip (strip a1)),(.int .i64 0)] H).bind fun r35 =>
 A5 r35.1 [
 l5 1 r35.2.1 fun v36 =>
 some ((v36 0),r35.2.2)])):=(l6 vb _ _ _ rfl).trans (by kernel_rfl)
theorem ahK (a0 a1:V) (H:VH):cv aaF [a0,a1] H =
 (qc E1 [(l4 H a0),(l4 H a1)]).bind fun x3 =>
 some (x3,H):=(l6 vb _ _ _ rfl).trans (by kernel_rfl)
noncomputable def aba:List V->VH->Option (Option Nat × List V × VH):=E2 (vb.ctx cv p5) (vb.b.I8 146) (vb.D7 146) ⟨⟨[0,1,5,6,7,8,9,10],[],[]⟩,[(.exit 1,⟨[],[],[]⟩),(.ret,⟨[4],[],[]⟩)]⟩ (E5 Tryz.f146 15)
theorem abd (a0 a1:V) (H:VH):cv E1 [a0,a1] H =
 (o9 a1).bind fun x2 =>
 (id (
 (a8 (.int .i64) .eql x2 (.int .i64 0)).bind fun x5 =>
 l9 x5 (
 some (0,[(.int .i64 0)],H)) (
 (a8 .str .eql (strip a1) a0).bind fun x12 =>
 l3 x12 (
 some (0,[(.int .i64 0)],H)) (
 (a8 (.int .i64) .eql (strip x2) (.int .i64 1)).bind fun x17 =>
 l3 x17 (
 (p9 (strip (strip a1)) (.int .i64 0)).bind fun x21 =>
 (qc C2 [(l4 H (strip a0)),(l4 H x21)]).bind fun x22 =>
 some (0,[x22],H)) (
 (o9 (strip a0)).bind fun x26 =>
 (a8 (.int .i64) .geq (strip (strip x2)) x26).bind fun x27 =>
 l3 x27 (
 some (0,[(.int .i64 (-1))],H)) (
 (L8 I2 false false 1 (.gp 1 0) H).bind fun r32 =>
 (a8 (.int .i64) .leq (strip (strip (strip x2))) r32.1).bind fun x33 =>
 l9 x33 (
 (o9 (strip (strip a0))).bind fun x36 =>
 (a8 (.int .i64) .leq x36 (.int .i64 64)).bind fun x37 =>
 l3 x37 (
 (aib 2 [(strip (strip (strip a0))),(strip (strip a1))] fun x42 =>
  some (0,[x42],r32.2))) (
 some (1,[(strip (strip (strip a0))),(strip (strip a1)),(strip (strip (strip (strip x2))))],r32.2))) (
 some (1,[(strip (strip a0)),(strip (strip a1)),(strip (strip (strip (strip x2))))],r32.2)))))):Option (Nat × List V × VH))).bind fun r46 =>
 A5 r46.1 [
 l5 1 r46.2.1 fun v47 =>
 some ((v47 0),r46.2.2),
 l5 3 r46.2.1 fun v48 =>
 (p9 (v48 1) (.int .i64 0)).bind fun x50 =>
 (p9 (strip (v48 1)) (.int .i64 1)).bind fun x53 =>
 (o9 (v48 0)).bind fun x57 =>
 (a8 (.int .i64) .sub x57 (v48 2)).bind fun x59 =>
 (a8 (.int .i64) .add x59 (.int .i64 1)).bind fun x60 =>
 (p5 aba [(strip (v48 0)),(strip (strip (v48 1))),(strip (v48 2)),x50,x53,(.int .i64 0),x60,(.int .i64 0)] r46.2.2).bind fun r208 =>
 A5 r208.1 [
 l5 0 r208.2.1 fun v209 =>
 some ((.int .i64 (-1)),r208.2.2),
 l5 1 r208.2.1 fun v211 =>
 some ((v211 0),r208.2.2)]]:=(l6 vb _ _ _ rfl).trans (by kernel_rfl)
theorem aan (a0 a1:V) (H:VH):cv C2 [a0,a1] H =
 (aib 0 [a0,a1] fun x3 =>
  some (x3,H)):=(l6 vb _ _ _ rfl).trans (by kernel_rfl)
theorem ag7 (a0 a1:V) (H:VH):cv S0 [a0,a1] H =
 (qc abr [(l4 H a1),(l4 H (.str [32]))]).bind fun x2 =>
 (y4 x2 0).bind fun x4 =>
 (y4 x2 1).bind fun x5 =>
 (y4 x2 2).bind fun x6 =>
 (T3 .not (strip x6)).bind fun x11 =>
 l3 x11 (
 (cv aek [(strip a0),(strip (strip x4))] H).bind fun r15 =>
 some (r15.1,r15.2)) (
 (a8 .str .eql (strip x4) (.str [115,97,121])).bind fun x18 =>
 l3 x18 (
 (cv aeS [(strip a0),(strip (strip x5))] H).bind fun r23 =>
 some (r23.1,r23.2)) (
 (a8 .str .eql (strip x4) (.str [98,111,120])).bind fun x25 =>
 l3 x25 (
 (M3 a0).bind fun x28 =>
 (L3 x28 0).bind fun x29 =>
 (L8 I2 false false 1 x29 H).bind fun r31 =>
 (pc ajQ [(l4 r31.2 r31.1),(l4 r31.2 (strip x5))]).bind fun x33 =>
 (y4 x33 0).bind fun x35 =>
 (y4 (abw 0 x33) 1).bind fun x36 =>
 (T3 .not (strip x36)).bind fun x40 =>
 l3 x40 (
 some ((.str [119,104,97,116,10]),r31.2)) (
 (M3 (strip a0)).bind fun x44 =>
 (L3 x44 0).bind fun x45 =>
 (C3 x35).bind fun y47 =>
 (stO x45 [y47] r31.2).bind fun H48 =>
 some ((.str [111,107,10]),H48))) (
 (a8 .str .eql (strip x4) (.str [116,97,107,101])).bind fun x50 =>
 l3 x50 (
 (cv ag5 [(strip a0),(strip (strip x5))] H).bind fun r55 =>
 some (r55.1,r55.2)) (
 (a8 .str .eql (strip x4) (.str [100,97,116,101])).bind fun x57 =>
 l3 x57 (
 (pc ahd [(l4 H (strip x5))]).bind fun x60 =>
 (y4 x60 0).bind fun x62 =>
 (y4 x60 1).bind fun x63 =>
 (P9 7 (strip x62)).bind fun c66 =>
 (T3 .not (strip x63)).bind fun x69 =>
 l3 x69 (
 some ((.str [119,104,97,116,10]),H)) (
 (M3 a0).bind fun x73 =>
 (L3 x73 7).bind fun x74 =>
 (stO x74 [(strip (c66.getD 0 .b7)),(strip (c66.getD 1 .b7)),(strip (c66.getD 2 .b7)),(strip (c66.getD 3 .b7)),(strip (c66.getD 4 .b7)),(strip (c66.getD 5 .b7)),(strip (c66.getD 6 .b7))] H).bind fun H76 =>
 (qc afY [(l4 H76 (.agg [(strip (c66.getD 0 .b7)),(strip (c66.getD 1 .b7)),(strip (c66.getD 2 .b7)),(strip (c66.getD 3 .b7)),(strip (c66.getD 4 .b7)),(strip (c66.getD 5 .b7)),(strip (c66.getD 6 .b7))]))]).bind fun x78 =>
 (a8 .str .add x78 (.str [10])).bind fun x79 =>
 some (x79,H76))) (
 (qc F8 [(l4 H (strip (strip x4))),(l4 H (strip x5))]).bind fun x83 =>
 (y4 x83 0).bind fun x85 =>
 (y4 x83 1).bind fun x86 =>
 (T3 .not (strip x86)).bind fun x90 =>
 l3 x90 (
 some ((.str [119,104,97,116,10]),H)) (
 (a8 .str .add (.str [61,32]) (strip x85)).bind fun x93 =>
 (a8 .str .add x93 (.str [10])).bind fun x94 =>
 some (x94,H))))))):=(l6 vb _ _ _ rfl).trans (by kernel_rfl)
theorem aj5 (a0 a1:V) (H:VH):cv abr [a0,a1] H =
 (qc K6 [(l4 H a0),(l4 H a1)]).bind fun x5 =>
 (y4 x5 0).bind fun x6 =>
 (y4 x5 1).bind fun x7 =>
 (y4 x5 2).bind fun x8 =>
 some ((.o8 [(strip x6),(strip x7),(strip x8)]),H):=(l6 vb _ _ _ rfl).trans (by kernel_rfl)
theorem ab4 (a0 a1:V) (H:VH):cv K6 [a0,a1] H =
 (qc E1 [(l4 H a0),(l4 H a1)]).bind fun x5 =>
 (a8 (.int .i64) .geq x5 (.int .i64 0)).bind fun x8 =>
 l3 x8 (
 (w8 (strip a0) none (some (strip x5))).bind fun x11 =>
 (o9 (strip a1)).bind fun x15 =>
 (a8 (.int .i64) .add (strip (strip x5)) x15).bind fun x16 =>
 (w8 (strip (strip a0)) (some x16) none).bind fun x17 =>
 some ((.o8 [x11,x17,(.bool true)]),H)) (
 some ((.o8 [(strip a0),(.str []),(.bool false)]),H)):=(l6 vb _ _ _ rfl).trans (by kernel_rfl)
theorem ail (a0 a1:V) (H:VH):cv F8 [a0,a1] H =
 (a8 .str .eql a0 (.str [97,100,100,114,101,115,115])).bind fun x3 =>
 l3 x3 (
 (pc ae3 [(l4 H a1)]).bind fun x6 =>
 (y4 x6 0).bind fun x8 =>
 (y4 x6 1).bind fun x9 =>
 (P9 3 (strip x8)).bind fun c12 =>
 (qc ad8 [(l4 H (.agg [(strip (c12.getD 0 .b7)),(strip (c12.getD 1 .b7)),(strip (c12.getD 2 .b7))]))]).bind fun x15 =>
 some ((.o8 [x15,(strip x9)]),H)) (
 (a8 .str .eql a0 (.str [108,105,115,116])).bind fun x19 =>
 l3 x19 (
 (pc ag3 [(l4 H a1)]).bind fun x22 =>
 (y4 x22 0).bind fun x24 =>
 (y4 x22 1).bind fun x25 =>
 (qc afJ [(l4 H (strip (strip (strip x24))))]).bind fun x29 =>
 l9 (strip x25) (
 (a8 .str .neq (strip x29) (.str [])).bind fun x35 =>
 l9 x35 (
 some ((.o8 [x29,(.bool true)]),H)) (
 (J7 (strip (strip (strip x24)))).bind fun x42 =>
 (a8 (.int .i64) .eql x42 (.int .i64 0)).bind fun x43 =>
 some ((.o8 [x29,x43]),H))) (
 some ((.o8 [x29,(.bool false)]),H))) (
 (a8 .str .eql a0 (.str [107,105,110,100])).bind fun x51 =>
 l3 x51 (
 (pc ahe [(l4 H a1)]).bind fun x54 =>
 (y4 x54 0).bind fun x56 =>
 (y4 x54 1).bind fun x57 =>
 (P9 3 (strip x56)).bind fun c60 =>
 (qc af5 [(l4 H (.agg [(strip (c60.getD 0 .b7)),(strip (c60.getD 1 .b7)),(strip (c60.getD 2 .b7))]))]).bind fun x63 =>
 some ((.o8 [x63,(strip x57)]),H)) (
 (a8 .str .eql a0 (.str [110,97,109,101])).bind fun x67 =>
 l3 x67 (
 (qc O5 [(l4 H a1)]).bind fun x70 =>
 (y4 x70 0).bind fun x72 =>
 (y4 x70 1).bind fun x73 =>
 (qc K5 [(l4 H (strip x72))]).bind fun x77 =>
 (y4 x77 0).bind fun x79 =>
 (y4 x77 1).bind fun x80 =>
 l9 (strip x73) (
 some ((.o8 [(strip x79),(strip x80)]),H)) (
 some ((.o8 [(strip x79),(.bool false)]),H))) (
 some ((.o8 [(.str []),(.bool false)]),H))))):=(l6 vb _ _ _ rfl).trans (by kernel_rfl)
noncomputable def abN:List V->VH->Option (Option Nat × List V × VH):=E2 (vb.ctx cv p5) (vb.b.I8 135) (vb.D7 135) ⟨⟨[4,5,14,15,16],[],[]⟩,[(.exit 0,⟨[4],[],[]⟩)]⟩ (E5 Tryz.f135 5)
theorem aeC (v0 v1 v2 v3 v4:V) (H:VH):abN [v0,v1,v2,v3,v4] H =
 (a8 (.int .i64) .lss v4 v3).bind fun x13 =>
 l3 x13 (
 (M0 1 v2 (strip v4)).bind fun x15 =>
 (L8 I2 false false 1 x15 H).bind fun r17 =>
 (qc M1 [(l4 r17.2 r17.1)]).bind fun x21 =>
 (y4 x21 0).bind fun x23 =>
 (y4 x21 1).bind fun x24 =>
 (id (
 (a8 (.int .i64) .gtr v4 (.int .i64 0)).bind fun x28 =>
 l9 x28 (
 l9 v1 (
 (T3 .not (strip x24)).bind fun x34 =>
 l3 x34 (
 (a8 .str .add v0 (.str [32])).bind fun x37 =>
 some (0,[x37,(strip r17.1),(strip x23),(strip (strip x24)),v2,v3,(strip v4)],r17.2)) (
 some (0,[v0,(strip r17.1),(strip x23),(strip (strip x24)),v2,v3,(strip v4)],r17.2))) (
 (T3 .not (.bool false)).bind fun x40 =>
 l3 x40 (
 (a8 .str .add v0 (.str [32])).bind fun x43 =>
 some (0,[x43,(strip r17.1),(strip x23),(strip x24),v2,v3,(strip v4)],r17.2)) (
 some (0,[v0,(strip r17.1),(strip x23),(strip x24),v2,v3,(strip v4)],r17.2)))) (
 some (0,[v0,(strip r17.1),(strip x23),(strip x24),v2,v3,(strip v4)],r17.2)):Option (Nat × List V × VH))).bind fun r46 =>
 A5 r46.1 [
 l5 7 r46.2.1 fun v47 =>
 (id (
 l3 (v47 3) (
 some (0,[(v47 0),(v47 2),(strip (v47 3)),(v47 4),(v47 5),(v47 6)],r46.2.2)) (
 some (0,[(v47 0),(v47 1),(strip (v47 3)),(v47 4),(v47 5),(v47 6)],r46.2.2)):Option (Nat × List V × VH))).bind fun r51 =>
 A5 r51.1 [
 l5 6 r51.2.1 fun v52 =>
 (a8 .str .add (v52 0) (v52 1)).bind fun x55 =>
 (a8 (.int .i64) .add (v52 5) (.int .i64 1)).bind fun x59 =>
 some (none,[x55,(v52 2),(v52 3),(v52 4),x59],r51.2.2)]]) (
 some (some 0,[v0],H)):=by kernel_rfl
theorem afB (a0:V) (H:VH):cv O5 [a0] H =
 (o9 a0).bind fun x3 =>
 (a8 (.int .i64) .gtr x3 (.int .i64 600)).bind fun x4 =>
 l3 x4 (
 some ((.o8 [(.str []),(.bool false)]),H)) (
 (pc K0 [(l4 H (strip a0)),(l4 H (.str [32]))]).bind fun x10 =>
 (J7 x10).bind fun x11 =>
 (p5 abN [(.str []),(.bool false),x10,x11,(.int .i64 0)] H).bind fun r61 =>
 A5 r61.1 [
 l5 1 r61.2.1 fun v62 =>
 (o9 (v62 0)).bind fun x64 =>
 (a8 (.int .i64) .gtr x64 (.int .i64 120)).bind fun x65 =>
 l3 x65 (
 some ((.o8 [(.str []),(.bool false)]),r61.2.2)) (
 some ((.o8 [(strip (v62 0)),(.bool true)]),r61.2.2))]):=(l6 vb _ _ _ rfl).trans (by kernel_rfl)
noncomputable def aaO:List V->VH->Option (Option Nat × List V × VH):=E2 (vb.ctx cv p5) (vb.b.I8 178) (vb.D7 178) ⟨⟨[0,4,5,6],[],[]⟩,[(.exit 0,⟨[0,4],[],[]⟩)]⟩ (E5 Tryz.f178 5)
theorem adm (v0 v1 v2 v3:V) (H:VH):aaO [v0,v1,v2,v3] H =
 (o9 v2).bind fun x29 =>
 (a8 (.int .i64) .lss v3 x29).bind fun x30 =>
 l3 x30 (
 (id (
 (p9 (strip v2) (strip v3)).bind fun x33 =>
 (a8 (.int .u8) .eql x33 (.int .u8 95)).bind fun x34 =>
 l3 x34 (
 (afi v1).bind fun s39 =>
 (W8 false 1 1 s39 (.sl true [[(.int .u8 32)]])).bind fun x38 =>
 some (0,[v0,x38,(strip (strip v2)),(strip (strip v3))],H)) (
 (a8 (.int .u8) .eql x33 (.int .u8 61)).bind fun x41 =>
 l3 x41 (
 (w8 (strip (strip v2)) (some (strip (strip v3))) none).bind fun x45 =>
 (qc ach [(l4 H x45)]).bind fun x46 =>
 (y4 x46 0).bind fun x48 =>
 (y4 x46 1).bind fun x49 =>
 (C3 (strip x48)).bind fun y55 =>
 (afi v1).bind fun s57 =>
 (W8 false 1 1 s57 (.sl true [[y55]])).bind fun x56 =>
 (a8 (.int .i64) .add (strip (strip (strip v3))) (.int .i64 2)).bind fun x60 =>
 some (0,[v0,x56,(strip (strip (strip v2))),x60],H)) (
 (p9 (strip (strip v2)) (strip (strip v3))).bind fun x65 =>
 (C3 x65).bind fun y67 =>
 (afi v1).bind fun s69 =>
 (W8 false 1 1 s69 (.sl true [[y67]])).bind fun x68 =>
 some (0,[v0,x68,(strip (strip (strip v2))),(strip (strip (strip v3)))],H))):Option (Nat × List V × VH))).bind fun r71 =>
 A5 r71.1 [
 l5 4 r71.2.1 fun v72 =>
 (a8 (.int .i64) .add (v72 3) (.int .i64 1)).bind fun x74 =>
 some (none,[(v72 0),(v72 1),(v72 2),x74],r71.2.2)]) (
 some (some 0,[v0,v1],H)):=by kernel_rfl
theorem aeT (a0:V) (H:VH):cv M1 [a0] H =
 (id (
 (o9 a0).bind fun x3 =>
 (a8 (.int .i64) .gtr x3 (.int .i64 40)).bind fun x4 =>
 l9 x4 (
 some (0,[(.str []),(.bool false)],H)) (
 (o9 (strip a0)).bind fun x10 =>
 (a8 (.int .i64) .lss x10 (.int .i64 12)).bind fun x11 =>
 l3 x11 (
 some (0,[(.str []),(.bool false)],H)) (
 some (1,[(strip (strip a0))],H))):Option (Nat × List V × VH))).bind fun r15 =>
 A5 r15.1 [
 l5 2 r15.2.1 fun v16 =>
 some ((.o8 [(v16 0),(v16 1)]),r15.2.2),
 l5 1 r15.2.1 fun v17 =>
 (o9 (strip (v17 0))).bind fun x21 =>
 (a8 (.int .i64) .sub x21 (.int .i64 2)).bind fun x22 =>
 (w8 (v17 0) (some (.int .i64 10)) (some x22)).bind fun x23 =>
 (p5 aaO [(strip (strip (v17 0))),(.sl true []),x23,(.int .i64 0)] r15.2.2).bind fun r76 =>
 A5 r76.1 [
 l5 2 r76.2.1 fun v77 =>
 (aae (strip (v77 1)) r76.2.2).bind fun x79 =>
 (qc aaB [(l4 r76.2.2 x79)]).bind fun x80 =>
 (y4 x80 0).bind fun x82 =>
 (y4 x80 1).bind fun x83 =>
 (id (
 (T3 .not (strip x83)).bind fun x87 =>
 l9 x87 (
 some (0,[(.str []),(.bool false)],r76.2.2)) (
 (a8 .str .neq (strip x82) (v77 0)).bind fun x94 =>
 l3 x94 (
 some (0,[(.str []),(.bool false)],r76.2.2)) (
 some (1,[(v77 1)],r76.2.2))):Option (Nat × List V × VH))).bind fun r98 =>
 A5 r98.1 [
 l5 2 r98.2.1 fun v99 =>
 some ((.o8 [(v99 0),(v99 1)]),r98.2.2),
 l5 1 r98.2.1 fun v100 =>
 (aae (strip (v100 0)) r98.2.2).bind fun x102 =>
 some ((.o8 [x102,(.bool true)]),r98.2.2)]]]:=(l6 vb _ _ _ rfl).trans (by kernel_rfl)
theorem aav (a0:V) (H:VH):cv ach [a0] H =
 (id (
 (o9 a0).bind fun x3 =>
 (a8 (.int .i64) .lss x3 (.int .i64 3)).bind fun x4 =>
 l9 x4 (
 some (0,[(.int .u8 0),(.bool false)],H)) (
 (p9 (strip a0) (.int .i64 0)).bind fun x10 =>
 (a8 (.int .u8) .neq x10 (.int .u8 61)).bind fun x11 =>
 l3 x11 (
 some (0,[(.int .u8 0),(.bool false)],H)) (
 some (1,[(strip (strip a0))],H))):Option (Nat × List V × VH))).bind fun r15 =>
 A5 r15.1 [
 l5 2 r15.2.1 fun v16 =>
 some ((.o8 [(v16 0),(v16 1)]),r15.2.2),
 l5 1 r15.2.1 fun v17 =>
 (p9 (v17 0) (.int .i64 1)).bind fun x19 =>
 (qc E8 [(l4 r15.2.2 (.str [48,49,50,51,52,53,54,55,56,57,65,66,67,68,69,70])),(l4 r15.2.2 x19)]).bind fun x20 =>
 (p9 (strip (v17 0)) (.int .i64 2)).bind fun x22 =>
 (qc E8 [(l4 r15.2.2 (.str [48,49,50,51,52,53,54,55,56,57,65,66,67,68,69,70])),(l4 r15.2.2 x22)]).bind fun x23 =>
 (a8 (.int .i64) .mul (.int .i64 16) x20).bind fun x27 =>
 (a8 (.int .i64) .add x27 x23).bind fun x29 =>
 (aai .u8 x29).bind fun x30 =>
 (a8 (.int .i64) .geq (strip x20) (.int .i64 0)).bind fun x32 =>
 l9 x32 (
 (a8 (.int .i64) .geq (strip x23) (.int .i64 0)).bind fun x35 =>
 some ((.o8 [x30,x35]),r15.2.2)) (
 some ((.o8 [x30,(.bool false)]),r15.2.2))]:=(l6 vb _ _ _ rfl).trans (by kernel_rfl)
theorem afj (a0 a1:V) (H:VH):cv E8 [a0,a1] H =
 (qc C2 [(l4 H a0),(l4 H a1)]).bind fun x3 =>
 some (x3,H):=(l6 vb _ _ _ rfl).trans (by kernel_rfl)
theorem aio (a0:V) (H:VH):cv aaB [a0] H =
 (id (
 (o9 a0).bind fun x3 =>
 (a8 (.int .i64) .eql x3 (.int .i64 0)).bind fun x4 =>
 l9 x4 (
 some (0,[(.str []),(.bool false)],H)) (
 (o9 (strip a0)).bind fun x12 =>
 (a8 (.int .i64) .gtr x12 (.int .i64 40)).bind fun x13 =>
 l9 x13 (
 some (0,[(.str []),(.bool false)],H)) (
 (qc F7 [(l4 H (strip (strip a0)))]).bind fun x20 =>
 (o9 x20).bind fun x21 =>
 (a8 (.int .i64) .gtr x21 (.int .i64 40)).bind fun x22 =>
 l3 x22 (
 some (0,[(.str []),(.bool false)],H)) (
 some (1,[(strip (strip (strip a0)))],H)))):Option (Nat × List V × VH))).bind fun r26 =>
 A5 r26.1 [
 l5 2 r26.2.1 fun v27 =>
 some ((.o8 [(v27 0),(v27 1)]),r26.2.2),
 l5 1 r26.2.1 fun v28 =>
 (qc F7 [(l4 r26.2.2 (v28 0))]).bind fun x30 =>
 some ((.o8 [x30,(.bool true)]),r26.2.2)]:=(l6 vb _ _ _ rfl).trans (by kernel_rfl)
end Go.Proofs.YtmokcpfbeggigaaGreatDoor.Q
