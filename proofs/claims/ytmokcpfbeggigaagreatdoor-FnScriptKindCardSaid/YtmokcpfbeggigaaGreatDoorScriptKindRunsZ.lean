/- What a call of each function comes to. -/
import Derived.Test.YtmokcpfbeggigaaGreatDoorScriptKindBaseZ
namespace Go.Proofs.YtmokcpfbeggigaaGreatDoor.Q
open Go Go.AM Go.Proofs
set_option linter.unusedVariables false
set_option maxRecDepth 100000
theorem agT (a0:V) (H:VH):cv X8 [a0] H =
 (y0 (strip a0)).bind fun x2 =>
 (a8 (.int .i64) .gtr x2 (.int .i64 1048576)).bind fun x3 =>
 j5 x3 (
 some ((.bool true),H)) (
 (qc O0 [(j3 H a0)]).bind fun x6 =>
 (pc P0 [(j3 H x6)]).bind fun x9 =>
 (n9 x9 0).bind fun x11 =>
 (n9 x9 1).bind fun x12 =>
 (E6 3 (strip x11)).bind fun c15 =>
 (pc V2 [(j3 H (strip x6))]).bind fun x18 =>
 (n9 x18 0).bind fun x20 =>
 (n9 x18 1).bind fun x21 =>
 (E6 3 (strip x20)).bind fun c24 =>
 (id (
 (qc W8 [(j3 H (.agg [(strip (c15.getD 0 .b7)),(strip (c15.getD 1 .b7)),(strip (c15.getD 2 .b7))])),(j3 H (.agg [(strip (c24.getD 0 .b7)),(strip (c24.getD 1 .b7)),(strip (c24.getD 2 .b7))]))]).bind fun x28 =>
 (C9 .not x28).bind fun x29 =>
 j8 x29 (
 some (0,[(.bool false)],H)) (
 (a8 .bool .neq (strip x12) (strip x21)).bind fun x35 =>
 j5 x35 (
 some (0,[(.bool false)],H)) (
 some (1,[(strip (strip x6)),(strip (strip x12)),(c15.getD 0 .b7),(c15.getD 1 .b7),(c15.getD 2 .b7)],H))):Option (Nat × List V × VH))).bind fun r38 =>
 u4 r38.1 [
 j4 1 r38.2.1 fun v39 =>
 some ((v39 0),r38.2.2),
 j4 5 r38.2.1 fun v40 =>
 (C9 .not (v40 1)).bind fun x42 =>
 j5 x42 (
 (a8 .str .add (.str [107,105,110,100,32]) (v40 0)).bind fun x44 =>
 (a8 .str .add x44 (.str [10])).bind fun x45 =>
 (qc G7 [(j3 r38.2.2 x45)]).bind fun x46 =>
 (a8 .str .eql x46 (.str [119,104,97,116,10])).bind fun x47 =>
 some (x47,r38.2.2)) (
 (a8 .str .add (.str [107,105,110,100,32]) (v40 0)).bind fun x50 =>
 (a8 .str .add x50 (.str [10])).bind fun x51 =>
 (qc G7 [(j3 r38.2.2 x51)]).bind fun x52 =>
 (qc N0 [(j3 r38.2.2 (.agg [(strip (v40 2)),(strip (v40 3)),(strip (v40 4))]))]).bind fun x54 =>
 (a8 .str .add (.str [61,32]) x54).bind fun x55 =>
 (a8 .str .add x55 (.str [10])).bind fun x56 =>
 (a8 .str .eql x52 x56).bind fun x57 =>
 some (x57,r38.2.2))]):=(j6 vb _ _ _ rfl).trans (by kernel_rfl)
theorem afE (a0:V) (H:VH):cv O0 [a0] H =
 (cv aah [a0] H).bind fun r3 =>
 (cv B6 [(strip r3.1),(.int .i64 4)] r3.2).bind fun r7 =>
 (a8 (.int .i64) .eql r7.1 (.int .i64 0)).bind fun x8 =>
 j5 x8 (
 (cv C2 [(strip (strip r3.1)),(.sl false (m6 [[(.str [84,69,88,84,47,80,108,97,105,110,59,32,67,104,97,114,115,101,116,32,61,32,117,116,102,45,56])],[(.str [116,101,120,116,47,112,108,97,105,110,59])],[(.str [116,101,120,116])],[(.str [32,116,101,120,116,47,104,116,109,108,32,59,120,61,34,97,59,98,34])],[(.str [97,47,98,59,99])],[(.str [97,47,98,59,32,99,61,100,32,101])],[(.str [97,47,98,59,32,99,61,100,59,32,67,61,101])]]))] r7.2).bind fun r12 =>
 some (r12.1,r12.2)) (
 (cv acx [(strip (strip (strip r3.1)))] r7.2).bind fun r17 =>
 (qc T5 [(j3 r17.2 r17.1)]).bind fun x18 =>
 (cv ack [(strip (strip r3.1)),(strip x18),(.sl false (m6 [[(.str [])],[(.str [32])],[(.str [59])],[(.str [61])],[(.str [34])],[(.str [47])]]))] r17.2).bind fun r21 =>
 some (r21.1,r21.2)):=(j6 vb _ _ _ rfl).trans (by kernel_rfl)
theorem alC (a0:V) (H:VH):cv aah [a0] H =
 (id (
 (y0 (strip a0)).bind fun x2 =>
 (a8 (.int .i64) .gtr x2 (.int .i64 2000)).bind fun x3 =>
 j5 x3 (
 (F1 1 (strip a0) none (some (.int .i64 2000))).bind fun x5 =>
 some (0,[x5],H)) (
 some (0,[a0],H)):Option (Nat × List V × VH))).bind fun r7 =>
 u4 r7.1 [
 j4 1 r7.2.1 fun v8 =>
 (y3 (v8 0)).bind fun y11 =>
 some ((.ptr r7.2.2.length 0),(r7.2.2++[[y11,(.int .i64 0)]]))]:=(j6 vb _ _ _ rfl).trans (by kernel_rfl)
theorem ahB (a0 a1:V) (H:VH):cv B6 [a0,a1] H =
 (P4 (strip a0)).bind fun x3 =>
 (K0 x3 1).bind fun x4 =>
 (E3 y9 false false 1 x4 H).bind fun r6 =>
 (a8 (.int .i64) .add r6.1 (.int .i64 1)).bind fun x7 =>
 (P4 a0).bind fun x8 =>
 (K0 x8 1).bind fun x9 =>
 (y3 x7).bind fun y11 =>
 (stO x9 [y11] r6.2).bind fun H12 =>
 (id (
 (a8 (.int .i64) .lss a1 (.int .i64 1)).bind fun x14 =>
 j8 x14 (
 some (0,[(.int .i64 0)],H12)) (
 (P4 (strip (strip a0))).bind fun x19 =>
 (K0 x19 0).bind fun x20 =>
 (E3 y9 false false 1 x20 H12).bind fun r22 =>
 (y0 r22.1).bind fun x23 =>
 (a8 (.int .i64) .eql x23 (.int .i64 0)).bind fun x24 =>
 j5 x24 (
 some (0,[(.int .i64 0)],r22.2)) (
 some (1,[(strip (strip (strip a0))),(strip a1)],r22.2))):Option (Nat × List V × VH))).bind fun r27 =>
 u4 r27.1 [
 j4 1 r27.2.1 fun v28 =>
 some ((v28 0),r27.2.2),
 j4 2 r27.2.1 fun v29 =>
 (P4 (v29 0)).bind fun x31 =>
 (K0 x31 1).bind fun x32 =>
 (E3 y9 false false 1 x32 r27.2.2).bind fun r34 =>
 (a8 (.int .i64) .sub r34.1 (.int .i64 1)).bind fun x35 =>
 (P4 (strip (v29 0))).bind fun x39 =>
 (K0 x39 0).bind fun x40 =>
 (E3 y9 false false 1 x40 r34.2).bind fun r42 =>
 (y0 r42.1).bind fun x43 =>
 (a8 (.int .i64) .lss x35 x43).bind fun x44 =>
 j5 x44 (
 (P4 (strip (strip (v29 0)))).bind fun x46 =>
 (K0 x46 0).bind fun x47 =>
 (E3 y9 false false 1 x47 r42.2).bind fun r49 =>
 (A1 1 r49.1 (strip x35)).bind fun x51 =>
 (E3 y9 false false 1 x51 r49.2).bind fun r53 =>
 (acY .i64 r53.1).bind fun x54 =>
 (a8 (.int .i64) .rem x54 (v29 1)).bind fun x56 =>
 some (x56,r53.2)) (
 (P4 (strip (strip (v29 0)))).bind fun x59 =>
 (K0 x59 0).bind fun x60 =>
 (E3 y9 false false 1 x60 r42.2).bind fun r62 =>
 (P4 (strip (strip (strip (v29 0))))).bind fun x65 =>
 (K0 x65 0).bind fun x66 =>
 (E3 y9 false false 1 x66 r62.2).bind fun r68 =>
 (y0 r68.1).bind fun x69 =>
 (a8 (.int .i64) .rem (strip x35) x69).bind fun x70 =>
 (A1 1 r62.1 x70).bind fun x71 =>
 (E3 y9 false false 1 x71 r68.2).bind fun r73 =>
 (acY .i64 r73.1).bind fun x74 =>
 (a8 (.int .i64) .mul x74 (.int .i64 131)).bind fun x75 =>
 (P4 (strip (strip (strip (strip (v29 0)))))).bind fun x77 =>
 (K0 x77 0).bind fun x78 =>
 (E3 y9 false false 1 x78 r73.2).bind fun r80 =>
 (a8 (.int .i64) .mul (strip (strip x35)) (.int .i64 7)).bind fun x82 =>
 (a8 (.int .i64) .add x82 (.int .i64 3)).bind fun x83 =>
 (P4 (strip (strip (strip (strip (strip (v29 0))))))).bind fun x85 =>
 (K0 x85 0).bind fun x86 =>
 (E3 y9 false false 1 x86 r80.2).bind fun r88 =>
 (y0 r88.1).bind fun x89 =>
 (a8 (.int .i64) .rem x83 x89).bind fun x90 =>
 (A1 1 r80.1 x90).bind fun x91 =>
 (E3 y9 false false 1 x91 r88.2).bind fun r93 =>
 (acY .i64 r93.1).bind fun x94 =>
 (a8 (.int .i64) .mul x94 (.int .i64 1117)).bind fun x95 =>
 (a8 (.int .i64) .add x75 x95).bind fun x96 =>
 (a8 (.int .i64) .mul (strip (strip (strip x35))) (.int .i64 29)).bind fun x98 =>
 (a8 (.int .i64) .add x96 x98).bind fun x99 =>
 (P4 (strip (strip (strip (strip (strip (strip (v29 0)))))))).bind fun x102 =>
 (K0 x102 0).bind fun x103 =>
 (E3 y9 false false 1 x103 r93.2).bind fun r105 =>
 (y0 r105.1).bind fun x106 =>
 (a8 (.int .i64) .quo (strip (strip (strip (strip x35)))) x106).bind fun x107 =>
 (a8 (.int .i64) .mul x107 (.int .i64 53)).bind fun x108 =>
 (a8 (.int .i64) .add x99 x108).bind fun x109 =>
 (a8 (.int .i64) .quo (strip x109) (.int .i64 64)).bind fun x113 =>
 (a8 (.int .i64) .xor x109 x113).bind fun x114 =>
 (a8 (.int .i64) .rem x114 (v29 1)).bind fun x118 =>
 some (x118,r105.2))]:=(j6 vb _ _ _ rfl).trans (by kernel_rfl)
theorem aj3 (a0 a1:V) (H:VH):cv C2 [a0,a1] H =
 (y0 (strip a1)).bind fun x4 =>
 (cv B6 [(strip a0),(strip x4)] H).bind fun r6 =>
 (A1 1 (strip a1) r6.1).bind fun x7 =>
 (E3 y9 false false 1 x7 r6.2).bind fun r9 =>
 some (r9.1,r9.2):=(j6 vb _ _ _ rfl).trans (by kernel_rfl)
noncomputable def af6:List V->VH->Option (Option Nat × List V × VH):=w8 (vb.ctx cv l3) (vb.b.D7 40) (vb.y4 40) ⟨⟨[0,4],[(2,(2,0)),(3,(3,0))],[(2,3),(3,3)]⟩,[(.exit 0,⟨[],[(2,(2,0)),(3,(3,0))],[(2,3),(3,3)]⟩)]⟩ (w7 Tryz.f40 3)
theorem ajn (v0 v1 v2 v3 v4 v5 v6 v7:V) (H:VH):af6 [v0,v1,v2,v3,v4,v5,v6,v7] H =
 (a8 (.int .i64) .gtr v1 (.int .i64 0)).bind fun x21 =>
 j5 x21 (
 (id (
 (cv C2 [(strip v0),(.sl false (m6 [[(.str [99,104,97,114,115,101,116])],[(.str [98,111,117,110,100,97,114,121])],[(.str [110,97,109,101])],[(.str [120])]]))] H).bind fun r25 =>
 (cv C2 [(strip (strip v0)),(.sl false (m6 [[(.str [117,116,102,45,56])],[(.str [98,48])],[(.str [97,32,98])],[(.str [113,34,122])],[(.str [])],[(.str [98,59,99])],[(.str [120,121,122])]]))] r25.2).bind fun r29 =>
 (y3 r25.1).bind fun y31 =>
 (y3 r29.1).bind fun y32 =>
 (qc aaN [(j3 r29.2 (strip v7)),(j3 r29.2 (strip y31))]).bind fun x39 =>
 (a8 (.int .i64) .lss x39 (.int .i64 0)).bind fun x40 =>
 j5 x40 (
 (Z6 v7).bind fun s46 =>
 (I5 false 2 32 s46 (.sl true [[(strip y31),(strip y32)]])).bind fun x45 =>
 (y3 x45).bind fun y49 =>
 some (0,[(strip (strip v0)),(strip v1),v2,v3,v4,v5,v6,y49],r29.2)) (
 some (0,[(strip (strip v0)),(strip v1),v2,v3,v4,v5,v6,v7],r29.2)):Option (Nat × List V × VH))).bind fun r50 =>
 u4 r50.1 [
 j4 8 r50.2.1 fun v51 =>
 (a8 (.int .i64) .sub (v51 1) (.int .i64 1)).bind fun x53 =>
 some (none,[(v51 0),x53,(v51 2),(v51 3),(v51 4),(v51 5),(v51 6),(v51 7)],r50.2.2)]) (
 some (some 0,[v2,v3,v4,v5,v6,v7],H)):=by kernel_rfl
theorem al9 (a0:V) (H:VH):cv acx [a0] H =
 (cv C2 [(strip a0),(.sl false (m6 [[(.str [116,101,120,116])],[(.str [105,109,97,103,101])],[(.str [109,117,108,116,105,112,97,114,116])]]))] H).bind fun r4 =>
 (cv C2 [(strip (strip a0)),(.sl false (m6 [[(.str [112,108,97,105,110])],[(.str [104,116,109,108])],[(.str [109,105,120,101,100])],[(.str [120,45,121])]]))] r4.2).bind fun r8 =>
 (y3 r4.1).bind fun y11 =>
 (y3 r8.1).bind fun y12 =>
 (cv U2 [(strip (strip (strip a0))),(.sl false (m6 [[(.int .i64 1)],[(.int .i64 0)],[(.int .i64 2)],[(.int .i64 3)]]))] r8.2).bind fun r18 =>
 (l3 af6 [(strip (strip (strip a0))),r18.1,(.str []),(.str []),(.sl true []),y11,y12,(.sl true [])] r18.2).bind fun r55 =>
 u4 r55.1 [
 j4 6 r55.2.1 fun v56 =>
 some ((.agg [(v56 3),(v56 4),(v56 5)]),r55.2.2)]:=(j6 vb _ _ _ rfl).trans (by kernel_rfl)
theorem ai8 (a0 a1:V) (H:VH):cv U2 [a0,a1] H =
 (y0 (strip a1)).bind fun x4 =>
 (cv B6 [(strip a0),(strip x4)] H).bind fun r6 =>
 (A1 1 (strip a1) r6.1).bind fun x7 =>
 (E3 y9 false false 1 x7 r6.2).bind fun r9 =>
 some (r9.1,r9.2):=(j6 vb _ _ _ rfl).trans (by kernel_rfl)
noncomputable def aaV:List V->VH->Option (Option Nat × List V × VH):=w8 (vb.ctx cv l3) (vb.b.D7 82) (vb.y4 82) ⟨⟨[0,1,5],[],[]⟩,[(.exit 0,⟨[],[],[]⟩),(.ret,⟨[4],[],[]⟩)]⟩ (w7 Tryz.f82 2)
theorem adw (v0 v1 v2:V) (H:VH):aaV [v0,v1,v2] H =
 (y0 (strip v0)).bind fun x4 =>
 (a8 (.int .i64) .lss v2 x4).bind fun x5 =>
 j5 x5 (
 (A1 2 (strip v0) (strip v2)).bind fun x8 =>
 (K0 x8 0).bind fun x9 =>
 (E3 y9 false false 1 x9 H).bind fun r11 =>
 (qc abv [(j3 r11.2 r11.1),(j3 r11.2 v1)]).bind fun x13 =>
 j5 x13 (
 some (some 1,[(strip (strip v2))],r11.2)) (
 (a8 (.int .i64) .add (strip (strip v2)) (.int .i64 1)).bind fun x17 =>
 some (none,[v0,(strip v1),x17],r11.2))) (
 some (some 0,[],H)):=by kernel_rfl
theorem amP (a0 a1:V) (H:VH):cv aaN [a0,a1] H =
 (l3 aaV [a0,a1,(.int .i64 0)] H).bind fun r19 =>
 u4 r19.1 [
 j4 0 r19.2.1 fun v20 =>
 some ((.int .i64 (-1)),r19.2.2),
 j4 1 r19.2.1 fun v22 =>
 some ((v22 0),r19.2.2)]:=(j6 vb _ _ _ rfl).trans (by kernel_rfl)
theorem akp (a0 a1:V) (H:VH):cv abv [a0,a1] H =
 (qc D4 [(j3 H a0)]).bind fun x2 =>
 (qc D4 [(j3 H a1)]).bind fun x4 =>
 (a8 .str .eql x2 x4).bind fun x5 =>
 some (x5,H):=(j6 vb _ _ _ rfl).trans (by kernel_rfl)
noncomputable def adz:List V->VH->Option (Option Nat × List V × VH):=w8 (vb.ctx cv l3) (vb.b.D7 51) (vb.y4 51) ⟨⟨[3,4],[],[]⟩,[(.exit 0,⟨[3],[],[]⟩)]⟩ (w7 Tryz.f51 3)
theorem ag4 (v0 v1:V) (H:VH):adz [v0,v1] H =
 (y0 (strip v0)).bind fun x7 =>
 (a8 (.int .i64) .lss v1 x7).bind fun x8 =>
 j5 x8 (
 (id (
 (A1 1 (strip v0) (strip v1)).bind fun x11 =>
 (E3 y9 false false 1 x11 H).bind fun r13 =>
 (a8 (.int .u8) .geq r13.1 (.int .u8 65)).bind fun x14 =>
 j8 x14 (
 (A1 1 (strip v0) (strip (strip v1))).bind fun x18 =>
 (E3 y9 false false 1 x18 r13.2).bind fun r20 =>
 (a8 (.int .u8) .leq r20.1 (.int .u8 90)).bind fun x21 =>
 j5 x21 (
 (A1 1 (strip v0) (strip (strip (strip (strip v1))))).bind fun x27 =>
 (E3 y9 false false 1 x27 r20.2).bind fun r29 =>
 (a8 (.int .u8) .add r29.1 (.int .u8 32)).bind fun x30 =>
 (A1 1 (strip v0) (strip (strip (strip v1)))).bind fun x31 =>
 (y3 x30).bind fun y33 =>
 (stO x31 [y33] r29.2).bind fun H34 =>
 some (0,[v0,(strip (strip (strip (strip (strip v1)))))],H34)) (
 some (0,[v0,(strip (strip (strip v1)))],r20.2))) (
 some (0,[v0,(strip (strip v1))],r13.2)):Option (Nat × List V × VH))).bind fun r36 =>
 u4 r36.1 [
 j4 2 r36.2.1 fun v37 =>
 (a8 (.int .i64) .add (v37 1) (.int .i64 1)).bind fun x39 =>
 some (none,[(v37 0),x39],r36.2.2)]) (
 some (some 0,[v0],H)):=by kernel_rfl
theorem aja (a0:V) (H:VH):cv D4 [a0] H =
 (an4 a0).bind fun x2 =>
 (l3 adz [(.z7 H.length 0 x2.length 1),(.int .i64 0)] (H++[x2])).bind fun r41 =>
 u4 r41.1 [
 j4 1 r41.2.1 fun v42 =>
 (aan (strip (v42 0)) r41.2.2).bind fun x44 =>
 some (x44,r41.2.2)]:=(j6 vb _ _ _ rfl).trans (by kernel_rfl)
noncomputable def ac1:List V->VH->Option (Option Nat × List V × VH):=w8 (vb.ctx cv l3) (vb.b.D7 39) (vb.y4 39) ⟨⟨[3,4],[(1,(1,0))],[(1,3)]⟩,[(.exit 0,⟨[3],[],[]⟩)]⟩ (w7 Tryz.f39 5)
theorem agi (v0 v1 v2 v3 v4:V) (H:VH):ac1 [v0,v1,v2,v3,v4] H =
 (y0 (strip v4)).bind fun x18 =>
 (a8 (.int .i64) .lss v1 x18).bind fun x19 =>
 j5 x19 (
 (a8 .str .add v0 (.str [59,32])).bind fun x21 =>
 (A1 2 (strip v4) (strip v1)).bind fun x25 =>
 (K0 x25 0).bind fun x26 =>
 (E3 y9 false false 1 x26 H).bind fun r28 =>
 (a8 .str .add x21 r28.1).bind fun x29 =>
 (a8 .str .add x29 (.str [61])).bind fun x30 =>
 (A1 2 (strip v4) (strip (strip v1))).bind fun x34 =>
 (K0 x34 1).bind fun x35 =>
 (E3 y9 false false 1 x35 r28.2).bind fun r37 =>
 (qc U6 [(j3 r37.2 r37.1)]).bind fun x38 =>
 (a8 .str .add x30 x38).bind fun x39 =>
 (a8 (.int .i64) .add (strip (strip (strip v1))) (.int .i64 1)).bind fun x42 =>
 some (none,[x39,x42,v2,v3,v4],r37.2)) (
 some (some 0,[v0],H)):=by kernel_rfl
theorem ahW (a0:V) (H:VH):cv T5 [a0] H =
 (E6 3 a0).bind fun c1 =>
 (qc O6 [(j3 H (.agg [(strip (c1.getD 0 .b7)),(strip (c1.getD 1 .b7)),(strip (c1.getD 2 .b7))]))]).bind fun x4 =>
 (C9 .not x4).bind fun x5 =>
 j5 x5 (
 some ((.str []),H)) (
 (a8 .str .add (strip (c1.getD 0 .b7)) (.str [47])).bind fun x9 =>
 (a8 .str .add x9 (strip (c1.getD 1 .b7))).bind fun x12 =>
 (l3 ac1 [x12,(.int .i64 0),(c1.getD 0 .b7),(c1.getD 1 .b7),(c1.getD 2 .b7)] H).bind fun r44 =>
 u4 r44.1 [
 j4 1 r44.2.1 fun v45 =>
 some ((v45 0),r44.2.2)]):=(j6 vb _ _ _ rfl).trans (by kernel_rfl)
noncomputable def ady:List V->VH->Option (Option Nat × List V × VH):=w8 (vb.ctx cv l3) (vb.b.D7 53) (vb.y4 53) ⟨⟨[3,4],[(1,(1,0))],[(1,3)]⟩,[(.exit 0,⟨[3],[],[]⟩),(.ret,⟨[2],[],[]⟩)]⟩ (w7 Tryz.f53 5)
theorem agp (v0 v1 v2 v3 v4:V) (H:VH):ady [v0,v1,v2,v3,v4] H =
 (y0 (strip v4)).bind fun x42 =>
 (a8 (.int .i64) .lss v1 x42).bind fun x43 =>
 j5 x43 (
 (id (
 (A1 2 (strip v4) (strip v1)).bind fun x47 =>
 (E3 y9 false true 2 x47 H).bind fun r49 =>
 (E6 2 r49.1).bind fun c52 =>
 (id (
 (qc V9 [(j3 r49.2 (strip (c52.getD 0 .b7)))]).bind fun x55 =>
 (C9 .not x55).bind fun x56 =>
 j8 x56 (
 some (0,[(.bool false)],r49.2)) (
 (qc acn [(j3 r49.2 (strip (c52.getD 1 .b7)))]).bind fun x64 =>
 (C9 .not x64).bind fun x65 =>
 j8 x65 (
 some (0,[(.bool false)],r49.2)) (
 (F1 2 (strip v4) none (some (strip (strip v1)))).bind fun x73 =>
 (qc aaN [(j3 r49.2 x73),(j3 r49.2 (strip (c52.getD 0 .b7)))]).bind fun x76 =>
 (a8 (.int .i64) .geq x76 (.int .i64 0)).bind fun x77 =>
 j5 x77 (
 some (0,[(.bool false)],r49.2)) (
 some (1,[v0,(strip (strip (strip v1))),v2,v3,v4,(c52.getD 0 .b7),(c52.getD 1 .b7)],r49.2)))):Option (Nat × List V × VH))).bind fun r80 =>
 u4 r80.1 [
 j4 1 r80.2.1 fun v81 =>
 some (0,[(v81 0)],r80.2.2),
 j4 7 r80.2.1 fun v82 =>
 (a8 (.int .i64) .add (v82 0) (.int .i64 3)).bind fun x84 =>
 (m9 (strip (v82 5))).bind fun x87 =>
 (a8 (.int .i64) .add x84 x87).bind fun x88 =>
 (qc U6 [(j3 r80.2.2 (strip (v82 6)))]).bind fun x91 =>
 (m9 x91).bind fun x92 =>
 (a8 (.int .i64) .add x88 x92).bind fun x93 =>
 some (1,[x93,(v82 1),(v82 2),(v82 3),(v82 4)],r80.2.2)]:Option (Nat × List V × VH))).bind fun r95 =>
 u4 r95.1 [
 j4 1 r95.2.1 fun v96 =>
 some (some 1,[(v96 0)],r95.2.2),
 j4 5 r95.2.1 fun v97 =>
 (a8 (.int .i64) .add (v97 1) (.int .i64 1)).bind fun x99 =>
 some (none,[(v97 0),x99,(v97 2),(v97 3),(v97 4)],r95.2.2)]) (
 some (some 0,[v0],H)):=by kernel_rfl
theorem ai1 (a0:V) (H:VH):cv O6 [a0] H =
 (E6 3 a0).bind fun c1 =>
 (id (
 (qc V9 [(j3 H (strip (c1.getD 0 .b7)))]).bind fun x5 =>
 (C9 .not x5).bind fun x6 =>
 j8 x6 (
 some (0,[(.bool false)],H)) (
 (qc V9 [(j3 H (strip (c1.getD 1 .b7)))]).bind fun x14 =>
 (C9 .not x14).bind fun x15 =>
 j8 x15 (
 some (0,[(.bool false)],H)) (
 (y0 (strip (c1.getD 2 .b7))).bind fun x22 =>
 (a8 (.int .i64) .gtr x22 (.int .i64 4)).bind fun x23 =>
 j5 x23 (
 some (0,[(.bool false)],H)) (
 some (1,[(c1.getD 0 .b7),(c1.getD 1 .b7),(c1.getD 2 .b7)],H)))):Option (Nat × List V × VH))).bind fun r26 =>
 u4 r26.1 [
 j4 1 r26.2.1 fun v27 =>
 some ((v27 0),r26.2.2),
 j4 3 r26.2.1 fun v28 =>
 (m9 (strip (v28 0))).bind fun x31 =>
 (m9 (strip (v28 1))).bind fun x34 =>
 (a8 (.int .i64) .add x31 x34).bind fun x35 =>
 (a8 (.int .i64) .add x35 (.int .i64 1)).bind fun x36 =>
 (l3 ady [x36,(.int .i64 0),(v28 0),(v28 1),(v28 2)] r26.2.2).bind fun r101 =>
 u4 r101.1 [
 j4 1 r101.2.1 fun v102 =>
 (a8 (.int .i64) .leq (v102 0) (.int .i64 150)).bind fun x104 =>
 some (x104,r101.2.2),
 j4 1 r101.2.1 fun v106 =>
 some ((v106 0),r101.2.2)]]:=(j6 vb _ _ _ rfl).trans (by kernel_rfl)
theorem amJ (a0:V) (H:VH):cv V9 [a0] H =
 (qc acC [(j3 H a0)]).bind fun x2 =>
 j8 x2 (
 (qc D4 [(j3 H (strip a0))]).bind fun x5 =>
 (a8 .str .eql x5 (strip (strip a0))).bind fun x7 =>
 some (x7,H)) (
 some ((.bool false),H)):=(j6 vb _ _ _ rfl).trans (by kernel_rfl)
noncomputable def aaI:List V->VH->Option (Option Nat × List V × VH):=w8 (vb.ctx cv l3) (vb.b.D7 154) (vb.y4 154) ⟨⟨[0,3],[],[]⟩,[(.exit 0,⟨[0],[],[]⟩),(.ret,⟨[2],[],[]⟩)]⟩ (w7 Tryz.f154 2)
theorem ado (v0 v1:V) (H:VH):aaI [v0,v1] H =
 (id (
 (m9 v0).bind fun x4 =>
 (a8 (.int .i64) .lss v1 x4).bind fun x5 =>
 j8 x5 (
 (a8 (.int .i64) .leq (strip v1) (.int .i64 30)).bind fun x8 =>
 j5 x8 (
 some (0,[(strip v0),(strip (strip v1))],H)) (
 some (1,[(strip v0)],H))) (
 some (1,[(strip v0)],H)):Option (Nat × List V × VH))).bind fun r11 =>
 u4 r11.1 [
 j4 2 r11.2.1 fun v12 =>
 (id (
 (l8 (v12 0) (v12 1)).bind fun x15 =>
 (qc Y7 [(j3 r11.2.2 x15)]).bind fun x16 =>
 (C9 .not x16).bind fun x17 =>
 j8 x17 (
 (l8 (strip (v12 0)) (strip (v12 1))).bind fun x21 =>
 (a8 (.int .u8) .neq x21 (.int .u8 45)).bind fun x22 =>
 j8 x22 (
 some (0,[(.bool false)],r11.2.2)) (
 (a8 (.int .i64) .eql (strip (strip (v12 1))) (.int .i64 0)).bind fun x28 =>
 j8 x28 (
 (l8 (strip (strip (v12 0))) (strip (strip (strip (v12 1))))).bind fun x32 =>
 (a8 (.int .u8) .leq x32 (.int .u8 57)).bind fun x33 =>
 j5 x33 (
 some (0,[(.bool false)],r11.2.2)) (
 some (1,[(strip (strip (strip (v12 0)))),(strip (strip (strip (strip (v12 1)))))],r11.2.2))) (
 some (1,[(strip (strip (v12 0))),(strip (strip (strip (v12 1))))],r11.2.2)))) (
 (a8 (.int .i64) .eql (strip (v12 1)) (.int .i64 0)).bind fun x42 =>
 j8 x42 (
 (l8 (strip (v12 0)) (strip (strip (v12 1)))).bind fun x46 =>
 (a8 (.int .u8) .leq x46 (.int .u8 57)).bind fun x47 =>
 j5 x47 (
 some (0,[(.bool false)],r11.2.2)) (
 some (1,[(strip (strip (v12 0))),(strip (strip (strip (v12 1))))],r11.2.2))) (
 some (1,[(strip (v12 0)),(strip (strip (v12 1)))],r11.2.2))):Option (Nat × List V × VH))).bind fun r53 =>
 u4 r53.1 [
 j4 1 r53.2.1 fun v54 =>
 some (some 1,[(v54 0)],r53.2.2),
 j4 2 r53.2.1 fun v55 =>
 (a8 (.int .i64) .add (v55 1) (.int .i64 1)).bind fun x57 =>
 some (none,[(v55 0),x57],r53.2.2)],
 j4 1 r11.2.1 fun v59 =>
 some (some 0,[(v59 0)],r11.2.2)]:=by kernel_rfl
theorem aml (a0:V) (H:VH):cv acC [a0] H =
 (l3 aaI [a0,(.int .i64 0)] H).bind fun r60 =>
 u4 r60.1 [
 j4 1 r60.2.1 fun v61 =>
 (m9 (v61 0)).bind fun x63 =>
 (a8 (.int .i64) .geq x63 (.int .i64 1)).bind fun x64 =>
 j8 x64 (
 (m9 (strip (v61 0))).bind fun x67 =>
 (a8 (.int .i64) .leq x67 (.int .i64 30)).bind fun x68 =>
 some (x68,r60.2.2)) (
 some ((.bool false),r60.2.2)),
 j4 1 r60.2.1 fun v73 =>
 some ((v73 0),r60.2.2)]:=(j6 vb _ _ _ rfl).trans (by kernel_rfl)
theorem ajM (a0:V) (H:VH):cv Y7 [a0] H =
 (a8 (.int .u8) .geq a0 (.int .u8 97)).bind fun x2 =>
 j8 x2 (
 (a8 (.int .u8) .leq (strip a0) (.int .u8 122)).bind fun x5 =>
 j8 x5 (
 some ((.bool true),H)) (
 (a8 (.int .u8) .geq (strip (strip a0)) (.int .u8 65)).bind fun x13 =>
 j8 x13 (
 (a8 (.int .u8) .leq (strip (strip (strip a0))) (.int .u8 90)).bind fun x16 =>
 j8 x16 (
 some ((.bool true),H)) (
 (a8 (.int .u8) .geq (strip (strip (strip (strip a0)))) (.int .u8 48)).bind fun x23 =>
 j8 x23 (
 (a8 (.int .u8) .leq (strip (strip (strip (strip (strip a0))))) (.int .u8 57)).bind fun x26 =>
 some (x26,H)) (
 some ((.bool false),H)))) (
 (a8 (.int .u8) .geq (strip (strip (strip a0))) (.int .u8 48)).bind fun x37 =>
 j8 x37 (
 (a8 (.int .u8) .leq (strip (strip (strip (strip a0)))) (.int .u8 57)).bind fun x40 =>
 some (x40,H)) (
 some ((.bool false),H))))) (
 (a8 (.int .u8) .geq (strip a0) (.int .u8 65)).bind fun x50 =>
 j8 x50 (
 (a8 (.int .u8) .leq (strip (strip a0)) (.int .u8 90)).bind fun x53 =>
 j8 x53 (
 some ((.bool true),H)) (
 (a8 (.int .u8) .geq (strip (strip (strip a0))) (.int .u8 48)).bind fun x60 =>
 j8 x60 (
 (a8 (.int .u8) .leq (strip (strip (strip (strip a0)))) (.int .u8 57)).bind fun x63 =>
 some (x63,H)) (
 some ((.bool false),H)))) (
 (a8 (.int .u8) .geq (strip (strip a0)) (.int .u8 48)).bind fun x74 =>
 j8 x74 (
 (a8 (.int .u8) .leq (strip (strip (strip a0))) (.int .u8 57)).bind fun x77 =>
 some (x77,H)) (
 some ((.bool false),H)))):=(j6 vb _ _ _ rfl).trans (by kernel_rfl)
theorem amO (a0:V) (H:VH):cv acn [a0] H =
 (qc O9 [(j3 H a0)]).bind fun x2 =>
 j8 x2 (
 (m9 (strip a0)).bind fun x5 =>
 (a8 (.int .i64) .leq x5 (.int .i64 40)).bind fun x6 =>
 some (x6,H)) (
 some ((.bool false),H)):=(j6 vb _ _ _ rfl).trans (by kernel_rfl)
noncomputable def U0:List V->VH->Option (Option Nat × List V × VH):=w8 (vb.ctx cv l3) (vb.b.D7 48) (vb.y4 48) ⟨⟨[0,3],[],[]⟩,[(.exit 0,⟨[0],[],[]⟩),(.ret,⟨[2],[],[]⟩)]⟩ (w7 Tryz.f48 2)
theorem abO (v0 v1:V) (H:VH):U0 [v0,v1] H =
 (id (
 (m9 v0).bind fun x4 =>
 (a8 (.int .i64) .lss v1 x4).bind fun x5 =>
 j8 x5 (
 (a8 (.int .i64) .leq (strip v1) (.int .i64 200)).bind fun x8 =>
 j5 x8 (
 some (0,[(strip v0),(strip (strip v1))],H)) (
 some (1,[(strip v0)],H))) (
 some (1,[(strip v0)],H)):Option (Nat × List V × VH))).bind fun r11 =>
 u4 r11.1 [
 j4 2 r11.2.1 fun v12 =>
 (id (
 (l8 (v12 0) (v12 1)).bind fun x15 =>
 (a8 (.int .u8) .lss x15 (.int .u8 32)).bind fun x16 =>
 j8 x16 (
 some (0,[(.bool false)],r11.2.2)) (
 (l8 (strip (v12 0)) (strip (v12 1))).bind fun x22 =>
 (a8 (.int .u8) .gtr x22 (.int .u8 126)).bind fun x23 =>
 j5 x23 (
 some (0,[(.bool false)],r11.2.2)) (
 some (1,[(strip (strip (v12 0))),(strip (strip (v12 1)))],r11.2.2))):Option (Nat × List V × VH))).bind fun r26 =>
 u4 r26.1 [
 j4 1 r26.2.1 fun v27 =>
 some (some 1,[(v27 0)],r26.2.2),
 j4 2 r26.2.1 fun v28 =>
 (a8 (.int .i64) .add (v28 1) (.int .i64 1)).bind fun x30 =>
 some (none,[(v28 0),x30],r26.2.2)],
 j4 1 r11.2.1 fun v32 =>
 some (some 0,[(v32 0)],r11.2.2)]:=by kernel_rfl
theorem ai7 (a0:V) (H:VH):cv O9 [a0] H =
 (l3 U0 [a0,(.int .i64 0)] H).bind fun r33 =>
 u4 r33.1 [
 j4 1 r33.2.1 fun v34 =>
 (m9 (v34 0)).bind fun x36 =>
 (a8 (.int .i64) .leq x36 (.int .i64 200)).bind fun x37 =>
 some (x37,r33.2.2),
 j4 1 r33.2.1 fun v39 =>
 some ((v39 0),r33.2.2)]:=(j6 vb _ _ _ rfl).trans (by kernel_rfl)
theorem ai4 (a0:V) (H:VH):cv U6 [a0] H =
 (qc O9 [(j3 H a0)]).bind fun x2 =>
 (C9 .not x2).bind fun x3 =>
 j5 x3 (
 some ((.str []),H)) (
 (qc abc [(j3 H (strip a0))]).bind fun x6 =>
 j5 x6 (
 some ((strip (strip a0)),H)) (
 (qc aae [(j3 H (strip (strip a0)))]).bind fun x10 =>
 some (x10,H))):=(j6 vb _ _ _ rfl).trans (by kernel_rfl)
noncomputable def U4:List V->VH->Option (Option Nat × List V × VH):=w8 (vb.ctx cv l3) (vb.b.D7 143) (vb.y4 143) ⟨⟨[0,3],[],[]⟩,[(.exit 0,⟨[0],[],[]⟩),(.ret,⟨[2],[],[]⟩)]⟩ (w7 Tryz.f143 2)
theorem abY (v0 v1:V) (H:VH):U4 [v0,v1] H =
 (id (
 (m9 v0).bind fun x4 =>
 (a8 (.int .i64) .lss v1 x4).bind fun x5 =>
 j8 x5 (
 (a8 (.int .i64) .leq (strip v1) (.int .i64 40)).bind fun x8 =>
 j5 x8 (
 some (0,[(strip v0),(strip (strip v1))],H)) (
 some (1,[(strip v0)],H))) (
 some (1,[(strip v0)],H)):Option (Nat × List V × VH))).bind fun r11 =>
 u4 r11.1 [
 j4 2 r11.2.1 fun v12 =>
 (l8 (v12 0) (v12 1)).bind fun x15 =>
 (qc aaM [(j3 r11.2.2 x15)]).bind fun x16 =>
 (C9 .not x16).bind fun x17 =>
 j5 x17 (
 some (some 1,[(.bool false)],r11.2.2)) (
 (a8 (.int .i64) .add (strip (v12 1)) (.int .i64 1)).bind fun x20 =>
 some (none,[(strip (v12 0)),x20],r11.2.2)),
 j4 1 r11.2.1 fun v22 =>
 some (some 0,[(v22 0)],r11.2.2)]:=by kernel_rfl
theorem ajl (a0:V) (H:VH):cv abc [a0] H =
 (l3 U4 [a0,(.int .i64 0)] H).bind fun r23 =>
 u4 r23.1 [
 j4 1 r23.2.1 fun v24 =>
 (m9 (v24 0)).bind fun x26 =>
 (a8 (.int .i64) .geq x26 (.int .i64 1)).bind fun x27 =>
 j8 x27 (
 (m9 (strip (v24 0))).bind fun x30 =>
 (a8 (.int .i64) .leq x30 (.int .i64 40)).bind fun x31 =>
 some (x31,r23.2.2)) (
 some ((.bool false),r23.2.2)),
 j4 1 r23.2.1 fun v36 =>
 some ((v36 0),r23.2.2)]:=(j6 vb _ _ _ rfl).trans (by kernel_rfl)
noncomputable def aaZ:List V->VH->Option (Option Nat × List V × VH):=w8 (vb.ctx cv l3) (vb.b.D7 97) (vb.y4 97) ⟨⟨[0,3],[],[]⟩,[(.exit 0,⟨[0],[],[]⟩),(.ret,⟨[2],[],[]⟩)]⟩ (w7 Tryz.f97 2)
theorem adA (v0 v1:V) (H:VH):aaZ [v0,v1] H =
 (a8 (.int .i64) .lss v1 (.int .i64 19)).bind fun x3 =>
 j5 x3 (
 (l8 (.str [33,35,36,37,38,39,42,43,45,47,61,63,94,95,96,123,124,125,126]) (strip v1)).bind fun x6 =>
 (a8 (.int .u8) .eql v0 x6).bind fun x7 =>
 j5 x7 (
 some (some 1,[(.bool true)],H)) (
 (a8 (.int .i64) .add (strip (strip v1)) (.int .i64 1)).bind fun x10 =>
 some (none,[(strip v0),x10],H))) (
 some (some 0,[v0],H)):=by kernel_rfl
theorem alY (a0:V) (H:VH):cv aaM [a0] H =
 (l3 aaZ [a0,(.int .i64 0)] H).bind fun r12 =>
 u4 r12.1 [
 j4 1 r12.2.1 fun v13 =>
 (qc Y7 [(j3 r12.2.2 (v13 0))]).bind fun x15 =>
 some (x15,r12.2.2),
 j4 1 r12.2.1 fun v17 =>
 some ((v17 0),r12.2.2)]:=(j6 vb _ _ _ rfl).trans (by kernel_rfl)
noncomputable def aeX:List V->VH->Option (Option Nat × List V × VH):=w8 (vb.ctx cv l3) (vb.b.D7 144) (vb.y4 144) ⟨⟨[0,3,4],[],[]⟩,[(.exit 0,⟨[3],[],[]⟩)]⟩ (w7 Tryz.f144 3)
theorem aim (v0 v1 v2:V) (H:VH):aeX [v0,v1,v2] H =
 (m9 v0).bind fun x5 =>
 (a8 (.int .i64) .lss v2 x5).bind fun x6 =>
 j5 x6 (
 (id (
 (id (
 (l8 (strip v0) (strip v2)).bind fun x9 =>
 (a8 (.int .u8) .eql x9 (.int .u8 34)).bind fun x10 =>
 j8 x10 (
 (aan (.sl true [[(.int .u8 92)]]) H).bind fun x15 =>
 (a8 .str .add v1 x15).bind fun x16 =>
 some (0,[(strip (strip v0)),x16,(strip (strip v2))],H)) (
 (l8 (strip (strip v0)) (strip (strip v2))).bind fun x20 =>
 (a8 (.int .u8) .eql x20 (.int .u8 92)).bind fun x21 =>
 j5 x21 (
 (aan (.sl true [[(.int .u8 92)]]) H).bind fun x25 =>
 (a8 .str .add v1 x25).bind fun x26 =>
 some (0,[(strip (strip (strip v0))),x26,(strip (strip (strip v2)))],H)) (
 some (0,[(strip (strip (strip v0))),v1,(strip (strip (strip v2)))],H))):Option (Nat × List V × VH))).bind fun r28 =>
 u4 r28.1 [
 j4 3 r28.2.1 fun v29 =>
 (a8 (.int .i64) .add (strip (v29 2)) (.int .i64 1)).bind fun x34 =>
 (w5 (v29 0) (some (v29 2)) (some x34)).bind fun x35 =>
 (a8 .str .add (v29 1) x35).bind fun x36 =>
 some (0,[(strip (v29 0)),x36,(strip (strip (v29 2)))],r28.2.2)]:Option (Nat × List V × VH))).bind fun r38 =>
 u4 r38.1 [
 j4 3 r38.2.1 fun v39 =>
 (a8 (.int .i64) .add (v39 2) (.int .i64 1)).bind fun x41 =>
 some (none,[(v39 0),(v39 1),x41],r38.2.2)]) (
 some (some 0,[v1],H)):=by kernel_rfl
theorem alD (a0:V) (H:VH):cv aae [a0] H =
 (l3 aeX [a0,(.str [34]),(.int .i64 0)] H).bind fun r43 =>
 u4 r43.1 [
 j4 1 r43.2.1 fun v44 =>
 (a8 .str .add (v44 0) (.str [34])).bind fun x46 =>
 some (x46,r43.2.2)]:=(j6 vb _ _ _ rfl).trans (by kernel_rfl)
theorem amM (a0 a1 a2:V) (H:VH):cv ack [a0,a1,a2] H =
 (id (
 (m9 a1).bind fun x2 =>
 (a8 (.int .i64) .eql x2 (.int .i64 0)).bind fun x3 =>
 j8 x3 (
 some (0,[(strip a1)],H)) (
 (cv B6 [(strip a0),(.int .i64 2)] H).bind fun r10 =>
 (a8 (.int .i64) .eql r10.1 (.int .i64 0)).bind fun x11 =>
 j5 x11 (
 some (0,[(strip a1)],r10.2)) (
 some (1,[(strip a0),(strip a1),a2],r10.2))):Option (Nat × List V × VH))).bind fun r15 =>
 u4 r15.1 [
 j4 1 r15.2.1 fun v16 =>
 some ((v16 0),r15.2.2),
 j4 3 r15.2.1 fun v17 =>
 (m9 (v17 1)).bind fun x20 =>
 (cv B6 [(strip (v17 0)),(strip x20)] r15.2.2).bind fun r22 =>
 (w5 (strip (v17 1)) none (some r22.1)).bind fun x26 =>
 (cv C2 [(strip (strip (v17 0))),(strip (strip (v17 2)))] r22.2).bind fun r30 =>
 (a8 .str .add x26 r30.1).bind fun x31 =>
 (cv B6 [(strip (strip (strip (v17 0)))),(.int .i64 2)] r30.2).bind fun r36 =>
 (a8 (.int .i64) .add (strip r22.1) r36.1).bind fun x37 =>
 (w5 (strip (strip (v17 1))) (some x37) none).bind fun x38 =>
 (a8 .str .add x31 x38).bind fun x39 =>
 some (x39,r36.2)]:=(j6 vb _ _ _ rfl).trans (by kernel_rfl)
noncomputable def adx:List V->VH->Option (Option Nat × List V × VH):=w8 (vb.ctx cv l3) (vb.b.D7 14) (vb.y4 14) ⟨⟨[7,37,38,39],[(2,(2,0)),(8,(8,0))],[(2,3),(8,3)]⟩,[(.exit 0,⟨[7],[(2,(2,0)),(8,(8,0))],[(2,3),(8,3)]⟩),(.ret,⟨[3],[(2,(2,0))],[(2,3)]⟩)]⟩ (w7 Tryz.f14 7)
theorem agM (v0 v1 v2 v3 v4 v5 v6 v7 v8 v9:V) (H:VH):adx [v0,v1,v2,v3,v4,v5,v6,v7,v8,v9] H =
 (a8 (.int .i64) .lss v3 v2).bind fun x37 =>
 j5 x37 (
 (A1 1 v1 v3).bind fun x38 =>
 (E3 y9 false false 1 x38 H).bind fun r40 =>
 (qc W2 [(j3 r40.2 r40.1),(j3 r40.2 (.str [61]))]).bind fun x43 =>
 (n9 x43 0).bind fun x45 =>
 (n9 x43 1).bind fun x46 =>
 (n9 x43 2).bind fun x47 =>
 (pc T2 [(j3 r40.2 (strip x46))]).bind fun x52 =>
 (n9 x52 0).bind fun x54 =>
 (n9 x52 1).bind fun x55 =>
 (id (
 (C9 .not (strip x47)).bind fun x59 =>
 j8 x59 (
 some (0,[(.bool false),(.str []),(.str []),(.sl true [])],r40.2)) (
 (C9 .not (strip x55)).bind fun x68 =>
 j8 x68 (
 some (0,[(.bool false),(.str []),(.str []),(.sl true [])],r40.2)) (
 (y0 (strip (strip (strip x54)))).bind fun x76 =>
 (a8 (.int .i64) .neq x76 (.int .i64 1)).bind fun x77 =>
 j5 x77 (
 some (0,[(.bool false),(.str []),(.str []),(.sl true [])],r40.2)) (
 some (1,[v0,(strip x45),(strip (strip x54)),v1,v2,v3,v4,v5,v6,v7,v8,v9],r40.2)))):Option (Nat × List V × VH))).bind fun r82 =>
 u4 r82.1 [
 j4 4 r82.2.1 fun v83 =>
 some (some 1,[(v83 0),(v83 1),(v83 2),(v83 3)],r82.2.2),
 j4 12 r82.2.1 fun v84 =>
 (qc aai [(j3 r82.2.2 (v84 1)),(j3 r82.2.2 (.str [32]))]).bind fun x88 =>
 (qc D5 [(j3 r82.2.2 x88)]).bind fun x89 =>
 (A1 1 (strip (v84 2)) (.int .i64 0)).bind fun x91 =>
 (E3 y9 false false 1 x91 r82.2.2).bind fun r93 =>
 (y3 x89).bind fun y95 =>
 (y3 r93.1).bind fun y96 =>
 (Z6 (v84 11)).bind fun s99 =>
 (I5 false 2 32 s99 (.sl true [[y95,y96]])).bind fun x98 =>
 (y3 x98).bind fun y102 =>
 (a8 (.int .i64) .add (v84 5) (.int .i64 1)).bind fun x103 =>
 some (none,[(v84 0),(v84 3),(v84 4),x103,(v84 6),(v84 7),(v84 8),(v84 9),(v84 10),y102],r93.2)]) (
 some (some 0,[v0,v4,v5,v6,v7,v8,v9],H)):=by kernel_rfl
theorem ajb (a0:V) (H:VH):cv P0 [a0] H =
 (qc K8 [(j3 H a0)]).bind fun x3 =>
 (C9 .not x3).bind fun x4 =>
 j5 x4 (
 some ((.n8 [(.agg [(.str []),(.str []),(.sl true [])]),(.bool false)]),H)) (
 (pc J7 [(j3 H (strip a0)),(j3 H (.int .u8 59))]).bind fun x9 =>
 (A1 1 (strip (strip x9)) (.int .i64 0)).bind fun x12 =>
 (E3 y9 false false 1 x12 H).bind fun r14 =>
 (qc aai [(j3 r14.2 r14.1),(j3 r14.2 (.str [32]))]).bind fun x15 =>
 (qc W2 [(j3 r14.2 x15),(j3 r14.2 (.str [47]))]).bind fun x16 =>
 (n9 x16 0).bind fun x18 =>
 (n9 x16 1).bind fun x19 =>
 (n9 x16 2).bind fun x20 =>
 (qc D5 [(j3 r14.2 (strip x18))]).bind fun x25 =>
 (qc D5 [(j3 r14.2 (strip x19))]).bind fun x27 =>
 (y3 x25).bind fun y29 =>
 (y3 x27).bind fun y30 =>
 (F1 1 (strip (strip x9)) (some (.int .i64 1)) none).bind fun x34 =>
 (y0 x34).bind fun x35 =>
 (l3 adx [(strip x20),x34,x35,(.int .i64 0),(.str []),(.str []),(.sl true []),y29,y30,(.sl true [])] r14.2).bind fun r105 =>
 u4 r105.1 [
 j4 7 r105.2.1 fun v106 =>
 (id (
 (C9 .not (v106 0)).bind fun x108 =>
 j8 x108 (
 some (0,[(.bool false),(.str []),(.str []),(.sl true [])],r105.2.2)) (
 (qc O8 [(j3 r105.2.2 (.agg [(strip (v106 4)),(strip (v106 5)),(strip (v106 6))]))]).bind fun x115 =>
 (C9 .not x115).bind fun x116 =>
 j5 x116 (
 some (0,[(.bool false),(.str []),(.str []),(.sl true [])],r105.2.2)) (
 some (1,[(v106 1),(v106 2),(v106 3),(v106 4),(v106 5),(v106 6)],r105.2.2))):Option (Nat × List V × VH))).bind fun r121 =>
 u4 r121.1 [
 j4 4 r121.2.1 fun v122 =>
 some ((.n8 [(.agg [(v122 1),(v122 2),(v122 3)]),(v122 0)]),r121.2.2),
 j4 6 r121.2.1 fun v123 =>
 some ((.n8 [(.agg [(v123 3),(v123 4),(v123 5)]),(.bool true)]),r121.2.2)],
 j4 4 r105.2.1 fun v127 =>
 some ((.n8 [(.agg [(v127 1),(v127 2),(v127 3)]),(v127 0)]),r105.2.2)]):=(j6 vb _ _ _ rfl).trans (by kernel_rfl)
noncomputable def U9:List V->VH->Option (Option Nat × List V × VH):=w8 (vb.ctx cv l3) (vb.b.D7 41) (vb.y4 41) ⟨⟨[0,5,6],[],[]⟩,[(.exit 0,⟨[0],[],[]⟩),(.ret,⟨[2],[],[]⟩)]⟩ (w7 Tryz.f41 2)
theorem abL (v0 v1 v2:V) (H:VH):U9 [v0,v1,v2] H =
 (a8 (.int .i64) .lss v2 v1).bind fun x4 =>
 j5 x4 (
 (l8 v0 v2).bind fun x9 =>
 (a8 (.int .u8) .lss x9 (.int .u8 32)).bind fun x10 =>
 j8 x10 (
 some (some 1,[(.bool false)],H)) (
 (l8 (strip v0) (strip v2)).bind fun x16 =>
 (a8 (.int .u8) .gtr x16 (.int .u8 126)).bind fun x17 =>
 j5 x17 (
 some (some 1,[(.bool false)],H)) (
 (a8 (.int .i64) .add (strip v2) (.int .i64 1)).bind fun x20 =>
 some (none,[(strip (strip v0)),v1,x20],H)))) (
 some (some 0,[v0],H)):=by kernel_rfl
theorem ajp (a0:V) (H:VH):cv K8 [a0] H =
 (m9 a0).bind fun x2 =>
 (l3 U9 [(strip a0),x2,(.int .i64 0)] H).bind fun r22 =>
 u4 r22.1 [
 j4 1 r22.2.1 fun v23 =>
 (m9 (v23 0)).bind fun x25 =>
 (a8 (.int .i64) .leq x25 (.int .i64 200)).bind fun x26 =>
 some (x26,r22.2.2),
 j4 1 r22.2.1 fun v28 =>
 some ((v28 0),r22.2.2)]:=(j6 vb _ _ _ rfl).trans (by kernel_rfl)
noncomputable def abP:List V->VH->Option (Option Nat × List V × VH):=w8 (vb.ctx cv l3) (vb.b.D7 42) (vb.y4 42) ⟨⟨[0,1,5],[],[]⟩,[(.ret,⟨[4],[],[]⟩)]⟩ (w7 Tryz.f42 2)
theorem aeE (v0 v1 v2:V) (H:VH):abP [v0,v1,v2] H =
 (qc aab [(j3 H v0),(j3 H v1)]).bind fun x5 =>
 (a8 (.int .i64) .lss x5 (.int .i64 0)).bind fun x8 =>
 j5 x8 (
 (y3 (strip v0)).bind fun y12 =>
 (Z6 v2).bind fun s14 =>
 (I5 false 1 16 s14 (.sl true [[y12]])).bind fun x13 =>
 some (some 0,[x13],H)) (
 (w5 (strip v0) none (some (strip x5))).bind fun x19 =>
 (y3 x19).bind fun y21 =>
 (Z6 v2).bind fun s23 =>
 (I5 false 1 16 s23 (.sl true [[y21]])).bind fun x22 =>
 (a8 (.int .i64) .add (strip (strip x5)) (.int .i64 1)).bind fun x26 =>
 (w5 (strip (strip v0)) (some x26) none).bind fun x27 =>
 some (none,[x27,(strip v1),x22],H)):=by kernel_rfl
theorem agC (a0 a1:V) (H:VH):cv J7 [a0,a1] H =
 (l3 abP [a0,a1,(.sl true [])] H).bind fun r30 =>
 u4 r30.1 [
 j4 1 r30.2.1 fun v31 =>
 some ((v31 0),r30.2.2)]:=(j6 vb _ _ _ rfl).trans (by kernel_rfl)
noncomputable def aeP:List V->VH->Option (Option Nat × List V × VH):=w8 (vb.ctx cv l3) (vb.b.D7 83) (vb.y4 83) ⟨⟨[0,1,5],[],[]⟩,[(.exit 0,⟨[],[],[]⟩),(.ret,⟨[4],[],[]⟩)]⟩ (w7 Tryz.f83 2)
theorem aip (v0 v1 v2:V) (H:VH):aeP [v0,v1,v2] H =
 (m9 v0).bind fun x4 =>
 (a8 (.int .i64) .lss v2 x4).bind fun x5 =>
 j5 x5 (
 (id (
 (l8 (strip v0) (strip v2)).bind fun x8 =>
 (a8 (.int .u8) .eql x8 (.int .u8 34)).bind fun x9 =>
 j5 x9 (
 (w5 (strip (strip v0)) (some (strip (strip v2))) none).bind fun x13 =>
 (qc V8 [(j3 H x13)]).bind fun x14 =>
 (n9 x14 0).bind fun x16 =>
 (n9 x14 1).bind fun x17 =>
 (n9 x14 2).bind fun x18 =>
 (C9 .not (strip x18)).bind fun x23 =>
 j5 x23 (
 some (0,[(.int .i64 (-1))],H)) (
 (a8 (.int .i64) .sub (strip x17) (.int .i64 1)).bind fun x27 =>
 (a8 (.int .i64) .add (strip (strip (strip v2))) x27).bind fun x28 =>
 some (1,[(strip (strip (strip v0))),v1,x28],H))) (
 (a8 (.int .u8) .eql x8 v1).bind fun x31 =>
 j5 x31 (
 some (0,[(strip (strip v2))],H)) (
 some (1,[(strip (strip v0)),(strip v1),(strip (strip v2))],H))):Option (Nat × List V × VH))).bind fun r35 =>
 u4 r35.1 [
 j4 1 r35.2.1 fun v36 =>
 some (some 1,[(v36 0)],r35.2.2),
 j4 3 r35.2.1 fun v37 =>
 (a8 (.int .i64) .add (v37 2) (.int .i64 1)).bind fun x39 =>
 some (none,[(v37 0),(v37 1),x39],r35.2.2)]) (
 some (some 0,[],H)):=by kernel_rfl
theorem alB (a0 a1:V) (H:VH):cv aab [a0,a1] H =
 (l3 aeP [a0,a1,(.int .i64 0)] H).bind fun r41 =>
 u4 r41.1 [
 j4 0 r41.2.1 fun v42 =>
 some ((.int .i64 (-1)),r41.2.2),
 j4 1 r41.2.1 fun v44 =>
 some ((v44 0),r41.2.2)]:=(j6 vb _ _ _ rfl).trans (by kernel_rfl)
noncomputable def afZ:List V->VH->Option (Option Nat × List V × VH):=w8 (vb.ctx cv l3) (vb.b.D7 92) (vb.y4 92) ⟨⟨[0,5,6],[],[]⟩,[(.exit 0,⟨[],[],[]⟩),(.ret,⟨[2,3,4],[],[]⟩)]⟩ (w7 Tryz.f92 3)
theorem ai2 (v0 v1 v2:V) (H:VH):afZ [v0,v1,v2] H =
 (m9 v0).bind fun x8 =>
 (a8 (.int .i64) .lss v2 x8).bind fun x9 =>
 j5 x9 (
 (id (
 (id (
 (l8 (strip v0) (strip v2)).bind fun x12 =>
 (a8 (.int .u8) .eql x12 (.int .u8 34)).bind fun x13 =>
 j5 x13 (
 (aan (strip v1) H).bind fun x16 =>
 (a8 (.int .i64) .add (strip (strip v2)) (.int .i64 1)).bind fun x18 =>
 some (0,[x16,x18,(.bool true)],H)) (
 (l8 (strip (strip v0)) (strip (strip v2))).bind fun x24 =>
 (a8 (.int .u8) .eql x24 (.int .u8 92)).bind fun x25 =>
 j5 x25 (
 (a8 (.int .i64) .add (strip (strip (strip v2))) (.int .i64 1)).bind fun x28 =>
 (m9 (strip (strip (strip v0)))).bind fun x32 =>
 (a8 (.int .i64) .eql x28 x32).bind fun x33 =>
 j5 x33 (
 some (0,[(.str []),(.int .i64 0),(.bool false)],H)) (
 some (1,[(strip (strip (strip (strip v0)))),v1,(strip x28)],H))) (
 some (1,[(strip (strip (strip v0))),v1,(strip (strip (strip v2)))],H))):Option (Nat × List V × VH))).bind fun r37 =>
 u4 r37.1 [
 j4 3 r37.2.1 fun v38 =>
 some (0,[(v38 0),(v38 1),(v38 2)],r37.2.2),
 j4 3 r37.2.1 fun v39 =>
 (l8 (v39 0) (v39 2)).bind fun x43 =>
 (y3 x43).bind fun y45 =>
 (Z6 (v39 1)).bind fun s47 =>
 (I5 false 1 1 s47 (.sl true [[y45]])).bind fun x46 =>
 some (1,[(strip (v39 0)),x46,(strip (v39 2))],r37.2.2)]:Option (Nat × List V × VH))).bind fun r49 =>
 u4 r49.1 [
 j4 3 r49.2.1 fun v50 =>
 some (some 1,[(v50 0),(v50 1),(v50 2)],r49.2.2),
 j4 3 r49.2.1 fun v51 =>
 (a8 (.int .i64) .add (v51 2) (.int .i64 1)).bind fun x53 =>
 some (none,[(v51 0),(v51 1),x53],r49.2.2)]) (
 some (some 0,[],H)):=by kernel_rfl
theorem amg (a0:V) (H:VH):cv V8 [a0] H =
 (l3 afZ [a0,(.sl true []),(.int .i64 1)] H).bind fun r55 =>
 u4 r55.1 [
 j4 0 r55.2.1 fun v56 =>
 some ((.n8 [(.str []),(.int .i64 0),(.bool false)]),r55.2.2),
 j4 3 r55.2.1 fun v60 =>
 some ((.n8 [(v60 0),(v60 1),(v60 2)]),r55.2.2)]:=(j6 vb _ _ _ rfl).trans (by kernel_rfl)
theorem alb (a0 a1:V) (H:VH):cv aai [a0,a1] H =
 (id (
 (a8 .str .eql a0 (.str [])).bind fun x2 =>
 j8 x2 (
 some (0,[(strip a0)],H)) (
 (a8 .str .eql a1 (.str [])).bind fun x8 =>
 j5 x8 (
 some (0,[(strip a0)],H)) (
 some (1,[(strip a0),(strip a1)],H))):Option (Nat × List V × VH))).bind fun r12 =>
 u4 r12.1 [
 j4 1 r12.2.1 fun v13 =>
 some ((v13 0),r12.2.2),
 j4 2 r12.2.1 fun v14 =>
 (id (
 (m9 (v14 1)).bind fun x16 =>
 (a8 (.int .i64) .eql x16 (.int .i64 1)).bind fun x17 =>
 j8 x17 (
 (l8 (strip (v14 1)) (.int .i64 0)).bind fun x20 =>
 (a8 (.int .u8) .lss x20 (.int .u8 128)).bind fun x21 =>
 j5 x21 (
 (l8 (strip (strip (v14 1))) (.int .i64 0)).bind fun x25 =>
 (qc F8 [(j3 r12.2.2 (v14 0)),(j3 r12.2.2 x25)]).bind fun x26 =>
 (l8 (strip (strip (strip (v14 1)))) (.int .i64 0)).bind fun x28 =>
 (qc G6 [(j3 r12.2.2 x26),(j3 r12.2.2 x28)]).bind fun x29 =>
 some (0,[x29],r12.2.2)) (
 some (1,[(v14 0),(strip (strip (v14 1)))],r12.2.2))) (
 some (1,[(v14 0),(strip (v14 1))],r12.2.2)):Option (Nat × List V × VH))).bind fun r32 =>
 u4 r32.1 [
 j4 1 r32.2.1 fun v33 =>
 some ((v33 0),r32.2.2),
 j4 2 r32.2.1 fun v34 =>
 (pc aeF [(j3 r32.2.2 (v34 1))]).bind fun x36 =>
 (n9 x36 0).bind fun x38 =>
 (n9 x36 1).bind fun x39 =>
 (E6 256 (strip x38)).bind fun c42 =>
 (stO (.ptr r32.2.2.length 0) [(c42.getD 0 .b7),(c42.getD 1 .b7),(c42.getD 2 .b7),(c42.getD 3 .b7),(c42.getD 4 .b7),(c42.getD 5 .b7),(c42.getD 6 .b7),(c42.getD 7 .b7),(c42.getD 8 .b7),(c42.getD 9 .b7),(c42.getD 10 .b7),(c42.getD 11 .b7),(c42.getD 12 .b7),(c42.getD 13 .b7),(c42.getD 14 .b7),(c42.getD 15 .b7),(c42.getD 16 .b7),(c42.getD 17 .b7),(c42.getD 18 .b7),(c42.getD 19 .b7),(c42.getD 20 .b7),(c42.getD 21 .b7),(c42.getD 22 .b7),(c42.getD 23 .b7),(c42.getD 24 .b7),(c42.getD 25 .b7),(c42.getD 26 .b7),(c42.getD 27 .b7),(c42.getD 28 .b7),(c42.getD 29 .b7),(c42.getD 30 .b7),(c42.getD 31 .b7),(c42.getD 32 .b7),(c42.getD 33 .b7),(c42.getD 34 .b7),(c42.getD 35 .b7),(c42.getD 36 .b7),(c42.getD 37 .b7),(c42.getD 38 .b7),(c42.getD 39 .b7),(c42.getD 40 .b7),(c42.getD 41 .b7),(c42.getD 42 .b7),(c42.getD 43 .b7),(c42.getD 44 .b7),(c42.getD 45 .b7),(c42.getD 46 .b7),(c42.getD 47 .b7),(c42.getD 48 .b7),(c42.getD 49 .b7),(c42.getD 50 .b7),(c42.getD 51 .b7),(c42.getD 52 .b7),(c42.getD 53 .b7),(c42.getD 54 .b7),(c42.getD 55 .b7),(c42.getD 56 .b7),(c42.getD 57 .b7),(c42.getD 58 .b7),(c42.getD 59 .b7),(c42.getD 60 .b7),(c42.getD 61 .b7),(c42.getD 62 .b7),(c42.getD 63 .b7),(c42.getD 64 .b7),(c42.getD 65 .b7),(c42.getD 66 .b7),(c42.getD 67 .b7),(c42.getD 68 .b7),(c42.getD 69 .b7),(c42.getD 70 .b7),(c42.getD 71 .b7),(c42.getD 72 .b7),(c42.getD 73 .b7),(c42.getD 74 .b7),(c42.getD 75 .b7),(c42.getD 76 .b7),(c42.getD 77 .b7),(c42.getD 78 .b7),(c42.getD 79 .b7),(c42.getD 80 .b7),(c42.getD 81 .b7),(c42.getD 82 .b7),(c42.getD 83 .b7),(c42.getD 84 .b7),(c42.getD 85 .b7),(c42.getD 86 .b7),(c42.getD 87 .b7),(c42.getD 88 .b7),(c42.getD 89 .b7),(c42.getD 90 .b7),(c42.getD 91 .b7),(c42.getD 92 .b7),(c42.getD 93 .b7),(c42.getD 94 .b7),(c42.getD 95 .b7),(c42.getD 96 .b7),(c42.getD 97 .b7),(c42.getD 98 .b7),(c42.getD 99 .b7),(c42.getD 100 .b7),(c42.getD 101 .b7),(c42.getD 102 .b7),(c42.getD 103 .b7),(c42.getD 104 .b7),(c42.getD 105 .b7),(c42.getD 106 .b7),(c42.getD 107 .b7),(c42.getD 108 .b7),(c42.getD 109 .b7),(c42.getD 110 .b7),(c42.getD 111 .b7),(c42.getD 112 .b7),(c42.getD 113 .b7),(c42.getD 114 .b7),(c42.getD 115 .b7),(c42.getD 116 .b7),(c42.getD 117 .b7),(c42.getD 118 .b7),(c42.getD 119 .b7),(c42.getD 120 .b7),(c42.getD 121 .b7),(c42.getD 122 .b7),(c42.getD 123 .b7),(c42.getD 124 .b7),(c42.getD 125 .b7),(c42.getD 126 .b7),(c42.getD 127 .b7),(c42.getD 128 .b7),(c42.getD 129 .b7),(c42.getD 130 .b7),(c42.getD 131 .b7),(c42.getD 132 .b7),(c42.getD 133 .b7),(c42.getD 134 .b7),(c42.getD 135 .b7),(c42.getD 136 .b7),(c42.getD 137 .b7),(c42.getD 138 .b7),(c42.getD 139 .b7),(c42.getD 140 .b7),(c42.getD 141 .b7),(c42.getD 142 .b7),(c42.getD 143 .b7),(c42.getD 144 .b7),(c42.getD 145 .b7),(c42.getD 146 .b7),(c42.getD 147 .b7),(c42.getD 148 .b7),(c42.getD 149 .b7),(c42.getD 150 .b7),(c42.getD 151 .b7),(c42.getD 152 .b7),(c42.getD 153 .b7),(c42.getD 154 .b7),(c42.getD 155 .b7),(c42.getD 156 .b7),(c42.getD 157 .b7),(c42.getD 158 .b7),(c42.getD 159 .b7),(c42.getD 160 .b7),(c42.getD 161 .b7),(c42.getD 162 .b7),(c42.getD 163 .b7),(c42.getD 164 .b7),(c42.getD 165 .b7),(c42.getD 166 .b7),(c42.getD 167 .b7),(c42.getD 168 .b7),(c42.getD 169 .b7),(c42.getD 170 .b7),(c42.getD 171 .b7),(c42.getD 172 .b7),(c42.getD 173 .b7),(c42.getD 174 .b7),(c42.getD 175 .b7),(c42.getD 176 .b7),(c42.getD 177 .b7),(c42.getD 178 .b7),(c42.getD 179 .b7),(c42.getD 180 .b7),(c42.getD 181 .b7),(c42.getD 182 .b7),(c42.getD 183 .b7),(c42.getD 184 .b7),(c42.getD 185 .b7),(c42.getD 186 .b7),(c42.getD 187 .b7),(c42.getD 188 .b7),(c42.getD 189 .b7),(c42.getD 190 .b7),(c42.getD 191 .b7),(c42.getD 192 .b7),(c42.getD 193 .b7),(c42.getD 194 .b7),(c42.getD 195 .b7),(c42.getD 196 .b7),(c42.getD 197 .b7),(c42.getD 198 .b7),(c42.getD 199 .b7),(c42.getD 200 .b7),(c42.getD 201 .b7),(c42.getD 202 .b7),(c42.getD 203 .b7),(c42.getD 204 .b7),(c42.getD 205 .b7),(c42.getD 206 .b7),(c42.getD 207 .b7),(c42.getD 208 .b7),(c42.getD 209 .b7),(c42.getD 210 .b7),(c42.getD 211 .b7),(c42.getD 212 .b7),(c42.getD 213 .b7),(c42.getD 214 .b7),(c42.getD 215 .b7),(c42.getD 216 .b7),(c42.getD 217 .b7),(c42.getD 218 .b7),(c42.getD 219 .b7),(c42.getD 220 .b7),(c42.getD 221 .b7),(c42.getD 222 .b7),(c42.getD 223 .b7),(c42.getD 224 .b7),(c42.getD 225 .b7),(c42.getD 226 .b7),(c42.getD 227 .b7),(c42.getD 228 .b7),(c42.getD 229 .b7),(c42.getD 230 .b7),(c42.getD 231 .b7),(c42.getD 232 .b7),(c42.getD 233 .b7),(c42.getD 234 .b7),(c42.getD 235 .b7),(c42.getD 236 .b7),(c42.getD 237 .b7),(c42.getD 238 .b7),(c42.getD 239 .b7),(c42.getD 240 .b7),(c42.getD 241 .b7),(c42.getD 242 .b7),(c42.getD 243 .b7),(c42.getD 244 .b7),(c42.getD 245 .b7),(c42.getD 246 .b7),(c42.getD 247 .b7),(c42.getD 248 .b7),(c42.getD 249 .b7),(c42.getD 250 .b7),(c42.getD 251 .b7),(c42.getD 252 .b7),(c42.getD 253 .b7),(c42.getD 254 .b7),(c42.getD 255 .b7)] (r32.2.2++[[(.bool false),(.bool false),(.bool false),(.bool false),(.bool false),(.bool false),(.bool false),(.bool false),(.bool false),(.bool false),(.bool false),(.bool false),(.bool false),(.bool false),(.bool false),(.bool false),(.bool false),(.bool false),(.bool false),(.bool false),(.bool false),(.bool false),(.bool false),(.bool false),(.bool false),(.bool false),(.bool false),(.bool false),(.bool false),(.bool false),(.bool false),(.bool false),(.bool false),(.bool false),(.bool false),(.bool false),(.bool false),(.bool false),(.bool false),(.bool false),(.bool false),(.bool false),(.bool false),(.bool false),(.bool false),(.bool false),(.bool false),(.bool false),(.bool false),(.bool false),(.bool false),(.bool false),(.bool false),(.bool false),(.bool false),(.bool false),(.bool false),(.bool false),(.bool false),(.bool false),(.bool false),(.bool false),(.bool false),(.bool false),(.bool false),(.bool false),(.bool false),(.bool false),(.bool false),(.bool false),(.bool false),(.bool false),(.bool false),(.bool false),(.bool false),(.bool false),(.bool false),(.bool false),(.bool false),(.bool false),(.bool false),(.bool false),(.bool false),(.bool false),(.bool false),(.bool false),(.bool false),(.bool false),(.bool false),(.bool false),(.bool false),(.bool false),(.bool false),(.bool false),(.bool false),(.bool false),(.bool false),(.bool false),(.bool false),(.bool false),(.bool false),(.bool false),(.bool false),(.bool false),(.bool false),(.bool false),(.bool false),(.bool false),(.bool false),(.bool false),(.bool false),(.bool false),(.bool false),(.bool false),(.bool false),(.bool false),(.bool false),(.bool false),(.bool false),(.bool false),(.bool false),(.bool false),(.bool false),(.bool false),(.bool false),(.bool false),(.bool false),(.bool false),(.bool false),(.bool false),(.bool false),(.bool false),(.bool false),(.bool false),(.bool false),(.bool false),(.bool false),(.bool false),(.bool false),(.bool false),(.bool false),(.bool false),(.bool false),(.bool false),(.bool false),(.bool false),(.bool false),(.bool false),(.bool false),(.bool false),(.bool false),(.bool false),(.bool false),(.bool false),(.bool false),(.bool false),(.bool false),(.bool false),(.bool false),(.bool false),(.bool false),(.bool false),(.bool false),(.bool false),(.bool false),(.bool false),(.bool false),(.bool false),(.bool false),(.bool false),(.bool false),(.bool false),(.bool false),(.bool false),(.bool false),(.bool false),(.bool false),(.bool false),(.bool false),(.bool false),(.bool false),(.bool false),(.bool false),(.bool false),(.bool false),(.bool false),(.bool false),(.bool false),(.bool false),(.bool false),(.bool false),(.bool false),(.bool false),(.bool false),(.bool false),(.bool false),(.bool false),(.bool false),(.bool false),(.bool false),(.bool false),(.bool false),(.bool false),(.bool false),(.bool false),(.bool false),(.bool false),(.bool false),(.bool false),(.bool false),(.bool false),(.bool false),(.bool false),(.bool false),(.bool false),(.bool false),(.bool false),(.bool false),(.bool false),(.bool false),(.bool false),(.bool false),(.bool false),(.bool false),(.bool false),(.bool false),(.bool false),(.bool false),(.bool false),(.bool false),(.bool false),(.bool false),(.bool false),(.bool false),(.bool false),(.bool false),(.bool false),(.bool false),(.bool false),(.bool false),(.bool false),(.bool false),(.bool false),(.bool false),(.bool false),(.bool false),(.bool false),(.bool false),(.bool false),(.bool false),(.bool false),(.bool false),(.bool false),(.bool false),(.bool false),(.bool false)]])).bind fun H43 =>
 j5 (strip x39) (
 (cv adK [(strip (v34 0)),(.ptr r32.2.2.length 0)] H43).bind fun r48 =>
 (cv ad6 [(strip r48.1),(.ptr r32.2.2.length 0)] r48.2).bind fun r50 =>
 some (r50.1,r50.2)) (
 (qc acR [(j3 H43 (v34 0)),(j3 H43 (strip (v34 1)))]).bind fun x54 =>
 (qc adj [(j3 H43 x54),(j3 H43 (strip (strip (v34 1))))]).bind fun x56 =>
 some (x56,H43))]]:=(j6 vb _ _ _ rfl).trans (by kernel_rfl)
noncomputable def aap:List V->VH->Option (Option Nat × List V × VH):=w8 (vb.ctx cv l3) (vb.b.D7 86) (vb.y4 86) ⟨⟨[0,1],[],[]⟩,[(.exit 0,⟨[0],[],[]⟩)]⟩ (w7 Tryz.f86 1)
theorem ac4 (v0 v1:V) (H:VH):aap [v0,v1] H =
 (id (
 (m9 v0).bind fun x2 =>
 (a8 (.int .i64) .gtr x2 (.int .i64 0)).bind fun x3 =>
 j8 x3 (
 (m9 (strip (strip v0))).bind fun x7 =>
 (a8 (.int .i64) .sub x7 (.int .i64 1)).bind fun x8 =>
 (l8 (strip v0) x8).bind fun x9 =>
 (a8 (.int .u8) .eql x9 v1).bind fun x11 =>
 j5 x11 (
 some (0,[(strip (strip (strip v0))),(strip v1)],H)) (
 some (1,[(strip (strip (strip v0)))],H))) (
 some (1,[(strip v0)],H)):Option (Nat × List V × VH))).bind fun r14 =>
 u4 r14.1 [
 j4 2 r14.2.1 fun v15 =>
 (m9 (strip (v15 0))).bind fun x18 =>
 (a8 (.int .i64) .sub x18 (.int .i64 1)).bind fun x19 =>
 (w5 (v15 0) none (some x19)).bind fun x20 =>
 some (none,[x20,(v15 1)],r14.2.2),
 j4 1 r14.2.1 fun v22 =>
 some (some 0,[(v22 0)],r14.2.2)]:=by kernel_rfl
theorem aer (a0 a1:V) (H:VH):cv F8 [a0,a1] H =
 (l3 aap [a0,a1] H).bind fun r23 =>
 u4 r23.1 [
 j4 1 r23.2.1 fun v24 =>
 some ((v24 0),r23.2.2)]:=(j6 vb _ _ _ rfl).trans (by kernel_rfl)
noncomputable def aa5:List V->VH->Option (Option Nat × List V × VH):=w8 (vb.ctx cv l3) (vb.b.D7 85) (vb.y4 85) ⟨⟨[0,1],[],[]⟩,[(.exit 0,⟨[0],[],[]⟩)]⟩ (w7 Tryz.f85 1)
theorem ade (v0 v1:V) (H:VH):aa5 [v0,v1] H =
 (id (
 (m9 v0).bind fun x2 =>
 (a8 (.int .i64) .gtr x2 (.int .i64 0)).bind fun x3 =>
 j8 x3 (
 (l8 (strip v0) (.int .i64 0)).bind fun x6 =>
 (a8 (.int .u8) .eql x6 v1).bind fun x8 =>
 j5 x8 (
 some (0,[(strip (strip v0)),(strip v1)],H)) (
 some (1,[(strip (strip v0))],H))) (
 some (1,[(strip v0)],H)):Option (Nat × List V × VH))).bind fun r11 =>
 u4 r11.1 [
 j4 2 r11.2.1 fun v12 =>
 (w5 (v12 0) (some (.int .i64 1)) none).bind fun x14 =>
 some (none,[x14,(v12 1)],r11.2.2),
 j4 1 r11.2.1 fun v16 =>
 some (some 0,[(v16 0)],r11.2.2)]:=by kernel_rfl
theorem aeD (a0 a1:V) (H:VH):cv G6 [a0,a1] H =
 (l3 aa5 [a0,a1] H).bind fun r17 =>
 u4 r17.1 [
 j4 1 r17.2.1 fun v18 =>
 some ((v18 0),r17.2.2)]:=(j6 vb _ _ _ rfl).trans (by kernel_rfl)
theorem amr (a0 a1:V) (H:VH):cv W2 [a0,a1] H =
 (qc N1 [(j3 H a0),(j3 H a1)]).bind fun x5 =>
 (n9 x5 0).bind fun x6 =>
 (n9 x5 1).bind fun x7 =>
 (n9 x5 2).bind fun x8 =>
 some ((.n8 [(strip x6),(strip x7),(strip x8)]),H):=(j6 vb _ _ _ rfl).trans (by kernel_rfl)
theorem acM (a0 a1:V) (H:VH):cv N1 [a0,a1] H =
 (qc F6 [(j3 H a0),(j3 H a1)]).bind fun x5 =>
 (a8 (.int .i64) .geq x5 (.int .i64 0)).bind fun x8 =>
 j5 x8 (
 (w5 (strip a0) none (some (strip x5))).bind fun x11 =>
 (m9 (strip a1)).bind fun x15 =>
 (a8 (.int .i64) .add (strip (strip x5)) x15).bind fun x16 =>
 (w5 (strip (strip a0)) (some x16) none).bind fun x17 =>
 some ((.n8 [x11,x17,(.bool true)]),H)) (
 some ((.n8 [(strip a0),(.str []),(.bool false)]),H)):=(j6 vb _ _ _ rfl).trans (by kernel_rfl)
noncomputable def ab0:List V->VH->Option (Option Nat × List V × VH):=w8 (vb.ctx cv l3) (vb.b.D7 146) (vb.y4 146) ⟨⟨[0,1,5,6,7,8,9,10],[],[]⟩,[(.exit 1,⟨[],[],[]⟩),(.ret,⟨[4],[],[]⟩)]⟩ (w7 Tryz.f146 15)
theorem acg (a0 a1:V) (H:VH):cv F6 [a0,a1] H =
 (m9 a1).bind fun x2 =>
 (id (
 (a8 (.int .i64) .eql x2 (.int .i64 0)).bind fun x5 =>
 j8 x5 (
 some (0,[(.int .i64 0)],H)) (
 (a8 .str .eql (strip a1) a0).bind fun x12 =>
 j5 x12 (
 some (0,[(.int .i64 0)],H)) (
 (a8 (.int .i64) .eql (strip x2) (.int .i64 1)).bind fun x17 =>
 j5 x17 (
 (l8 (strip (strip a1)) (.int .i64 0)).bind fun x21 =>
 (qc I0 [(j3 H (strip a0)),(j3 H x21)]).bind fun x22 =>
 some (0,[x22],H)) (
 (m9 (strip a0)).bind fun x26 =>
 (a8 (.int .i64) .geq (strip (strip x2)) x26).bind fun x27 =>
 j5 x27 (
 some (0,[(.int .i64 (-1))],H)) (
 (E3 y9 false false 1 (.gp 1 0) H).bind fun r32 =>
 (a8 (.int .i64) .leq (strip (strip (strip x2))) r32.1).bind fun x33 =>
 j8 x33 (
 (m9 (strip (strip a0))).bind fun x36 =>
 (a8 (.int .i64) .leq x36 (.int .i64 64)).bind fun x37 =>
 j5 x37 (
 (ajX 2 [(strip (strip (strip a0))),(strip (strip a1))] fun x42 =>
  some (0,[x42],r32.2))) (
 some (1,[(strip (strip (strip a0))),(strip (strip a1)),(strip (strip (strip (strip x2))))],r32.2))) (
 some (1,[(strip (strip a0)),(strip (strip a1)),(strip (strip (strip (strip x2))))],r32.2)))))):Option (Nat × List V × VH))).bind fun r46 =>
 u4 r46.1 [
 j4 1 r46.2.1 fun v47 =>
 some ((v47 0),r46.2.2),
 j4 3 r46.2.1 fun v48 =>
 (l8 (v48 1) (.int .i64 0)).bind fun x50 =>
 (l8 (strip (v48 1)) (.int .i64 1)).bind fun x53 =>
 (m9 (v48 0)).bind fun x57 =>
 (a8 (.int .i64) .sub x57 (v48 2)).bind fun x59 =>
 (a8 (.int .i64) .add x59 (.int .i64 1)).bind fun x60 =>
 (l3 ab0 [(strip (v48 0)),(strip (strip (v48 1))),(strip (v48 2)),x50,x53,(.int .i64 0),x60,(.int .i64 0)] r46.2.2).bind fun r208 =>
 u4 r208.1 [
 j4 0 r208.2.1 fun v209 =>
 some ((.int .i64 (-1)),r208.2.2),
 j4 1 r208.2.1 fun v211 =>
 some ((v211 0),r208.2.2)]]:=(j6 vb _ _ _ rfl).trans (by kernel_rfl)
theorem abg (a0 a1:V) (H:VH):cv I0 [a0,a1] H =
 (ajX 0 [a0,a1] fun x3 =>
  some (x3,H)):=(j6 vb _ _ _ rfl).trans (by kernel_rfl)
noncomputable def ads:List V->VH->Option (Option Nat × List V × VH):=w8 (vb.ctx cv l3) (vb.b.D7 45) (vb.y4 45) ⟨⟨[3,8,9,10],[],[]⟩,[(.exit 0,⟨[3],[],[]⟩)]⟩ (w7 Tryz.f45 3)
theorem agN (v0 v1 v2 v3:V) (H:VH):ads [v0,v1,v2,v3] H =
 (a8 (.int .i64) .lss v3 v2).bind fun x7 =>
 j5 x7 (
 (A1 1 v1 (strip v3)).bind fun x9 =>
 (E3 y9 false false 1 x9 H).bind fun r11 =>
 (a8 (.int .u8) .geq r11.1 (.int .u8 65)).bind fun x15 =>
 j8 x15 (
 (a8 (.int .u8) .leq (strip r11.1) (.int .u8 90)).bind fun x18 =>
 j5 x18 (
 (A1 1 (strip v0) v3).bind fun x22 =>
 (E3 y9 false false 1 x22 r11.2).bind fun r24 =>
 (a8 (.int .u8) .add r24.1 (.int .u8 32)).bind fun x25 =>
 (A1 1 (strip v0) v3).bind fun x26 =>
 (y3 x25).bind fun y28 =>
 (stO x26 [y28] r24.2).bind fun H29 =>
 (a8 (.int .i64) .add (strip v3) (.int .i64 1)).bind fun x30 =>
 some (none,[v0,v1,v2,x30],H29)) (
 (a8 (.int .i64) .add (strip v3) (.int .i64 1)).bind fun x32 =>
 some (none,[v0,v1,v2,x32],r11.2))) (
 (a8 (.int .i64) .add (strip v3) (.int .i64 1)).bind fun x35 =>
 some (none,[v0,v1,v2,x35],r11.2))) (
 some (some 0,[v0],H)):=by kernel_rfl
theorem aji (a0:V) (H:VH):cv D5 [a0] H =
 (an4 a0).bind fun x2 =>
 (y0 (.z7 H.length 0 x2.length 1)).bind fun x5 =>
 (l3 ads [(.z7 H.length 0 x2.length 1),(.z7 H.length 0 x2.length 1),x5,(.int .i64 0)] (H++[x2])).bind fun r37 =>
 u4 r37.1 [
 j4 1 r37.2.1 fun v38 =>
 (aan (strip (v38 0)) r37.2.2).bind fun x40 =>
 some (x40,r37.2.2)]:=(j6 vb _ _ _ rfl).trans (by kernel_rfl)
noncomputable def aar:List V->VH->Option (Option Nat × List V × VH):=w8 (vb.ctx cv l3) (vb.b.D7 46) (vb.y4 46) ⟨⟨[0,4,5,10],[],[]⟩,[(.exit 3,⟨[0,4,5,10],[],[]⟩)]⟩ (w7 Tryz.f46 7)
noncomputable def acV:List V->VH->Option (Option Nat × List V × VH):=w8 (vb.ctx cv l3) (vb.b.D7 46) (vb.y4 46) ⟨⟨[0,4,5,6],[],[]⟩,[(.exit 0,⟨[4],[],[]⟩),(.ret,⟨[2,3],[],[]⟩)]⟩ (w7 Tryz.f46 5)
theorem afY (v0 v1 v2 v3:V) (H:VH):aar [v0,v1,v2,v3] H =
 (id (
 (m9 v0).bind fun x65 =>
 (a8 (.int .i64) .lss v3 x65).bind fun x66 =>
 j8 x66 (
 (l8 (strip v0) (strip v3)).bind fun x70 =>
 (qc N4 [(j3 H x70)]).bind fun x71 =>
 j5 x71 (
 some (0,[(strip (strip v0)),v1,v2,(strip (strip v3))],H)) (
 some (1,[(strip (strip v0)),v1,v2,(strip (strip v3))],H))) (
 some (1,[(strip v0),v1,v2,(strip v3)],H)):Option (Nat × List V × VH))).bind fun r74 =>
 u4 r74.1 [
 j4 4 r74.2.1 fun v75 =>
 (a8 (.int .i64) .add (v75 3) (.int .i64 1)).bind fun x77 =>
 some (none,[(v75 0),(v75 1),(v75 2),x77],r74.2.2),
 j4 4 r74.2.1 fun v79 =>
 some (some 0,[(v79 0),(v79 1),(v79 2),(v79 3)],r74.2.2)]:=by kernel_rfl
theorem afN (v0 v1 v2 v3:V) (H:VH):acV [v0,v1,v2,v3] H =
 (m9 v0).bind fun x13 =>
 (a8 (.int .i64) .lss v2 x13).bind fun x14 =>
 j5 x14 (
 (l8 (strip v0) (strip v2)).bind fun x17 =>
 (a8 (.int .u8) .eql x17 (.int .u8 32)).bind fun x18 =>
 j5 x18 (
 (a8 (.int .i64) .add (strip (strip v2)) (.int .i64 1)).bind fun x21 =>
 some (none,[(strip (strip v0)),v1,x21,(.bool true)],H)) (
 (C9 .not v3).bind fun x25 =>
 j5 x25 (
 some (some 1,[(.sl true []),(.bool false)],H)) (
 (l8 (strip (strip v0)) (strip (strip v2))).bind fun x31 =>
 (a8 (.int .u8) .eql x31 (.int .u8 34)).bind fun x32 =>
 j5 x32 (
 (w5 (strip (strip (strip v0))) (some (strip (strip (strip v2)))) none).bind fun x36 =>
 (qc V8 [(j3 H x36)]).bind fun x37 =>
 (n9 x37 0).bind fun x39 =>
 (n9 x37 1).bind fun x40 =>
 (n9 x37 2).bind fun x41 =>
 (C9 .not (strip x41)).bind fun x46 =>
 j5 x46 (
 some (some 1,[(.sl true []),(.bool false)],H)) (
 (y3 (strip x39)).bind fun y52 =>
 (Z6 v1).bind fun s54 =>
 (I5 false 1 16 s54 (.sl true [[y52]])).bind fun x53 =>
 (a8 (.int .i64) .add (strip (strip (strip (strip v2)))) (strip x40)).bind fun x57 =>
 some (none,[(strip (strip (strip (strip v0)))),x53,x57,(.bool false)],H))) (
 (l3 aar [(strip (strip (strip v0))),v1,(strip (strip (strip (strip v2)))),(strip (strip (strip v2)))] H).bind fun r80 =>
 u4 r80.1 [
 j4 4 r80.2.1 fun v81 =>
 (a8 (.int .i64) .eql (v81 3) (v81 2)).bind fun x84 =>
 j5 x84 (
 some (some 1,[(.sl true []),(.bool false)],r80.2.2)) (
 (w5 (v81 0) (some (strip (v81 2))) (some (strip (v81 3)))).bind fun x91 =>
 (y3 x91).bind fun y93 =>
 (Z6 (v81 1)).bind fun s95 =>
 (I5 false 1 16 s95 (.sl true [[y93]])).bind fun x94 =>
 some (none,[(strip (v81 0)),x94,(strip (strip (v81 3))),(.bool false)],r80.2.2))])))) (
 some (some 0,[v1],H)):=by kernel_rfl
theorem aiv (a0:V) (H:VH):cv T2 [a0] H =
 (qc K8 [(j3 H a0)]).bind fun x3 =>
 (C9 .not x3).bind fun x4 =>
 j5 x4 (
 some ((.n8 [(.sl true []),(.bool false)]),H)) (
 (l3 acV [(strip a0),(.sl true []),(.int .i64 0),(.bool true)] H).bind fun r100 =>
 u4 r100.1 [
 j4 1 r100.2.1 fun v101 =>
 some ((.n8 [(v101 0),(.bool true)]),r100.2.2),
 j4 2 r100.2.1 fun v105 =>
 some ((.n8 [(v105 0),(v105 1)]),r100.2.2)]):=(j6 vb _ _ _ rfl).trans (by kernel_rfl)
theorem ahw (a0:V) (H:VH):cv N4 [a0] H =
 (qc R6 [(j3 H a0)]).bind fun x2 =>
 j8 x2 (
 some ((.bool true),H)) (
 (qc Z8 [(j3 H (strip a0))]).bind fun x27 =>
 j8 x27 (
 some ((.bool true),H)) (
 (a8 (.int .u8) .eql (strip (strip a0)) (.int .u8 33)).bind fun x51 =>
 j8 x51 (
 some ((.bool true),H)) (
 (a8 (.int .u8) .geq (strip (strip (strip a0))) (.int .u8 35)).bind fun x73 =>
 j8 x73 (
 (a8 (.int .u8) .leq (strip (strip (strip (strip a0)))) (.int .u8 39)).bind fun x76 =>
 j8 x76 (
 some ((.bool true),H)) (
 (a8 (.int .u8) .eql (strip (strip (strip (strip (strip a0))))) (.int .u8 42)).bind fun x97 =>
 j8 x97 (
 some ((.bool true),H)) (
 (a8 (.int .u8) .eql (strip (strip (strip (strip (strip (strip a0)))))) (.int .u8 43)).bind fun x115 =>
 j8 x115 (
 some ((.bool true),H)) (
 (a8 (.int .u8) .eql (strip (strip (strip (strip (strip (strip (strip a0))))))) (.int .u8 45)).bind fun x131 =>
 j8 x131 (
 some ((.bool true),H)) (
 (a8 (.int .u8) .eql (strip (strip (strip (strip (strip (strip (strip (strip a0)))))))) (.int .u8 47)).bind fun x145 =>
 j8 x145 (
 some ((.bool true),H)) (
 (a8 (.int .u8) .eql (strip (strip (strip (strip (strip (strip (strip (strip (strip a0))))))))) (.int .u8 61)).bind fun x157 =>
 j8 x157 (
 some ((.bool true),H)) (
 (a8 (.int .u8) .eql (strip (strip (strip (strip (strip (strip (strip (strip (strip (strip a0)))))))))) (.int .u8 63)).bind fun x167 =>
 j8 x167 (
 some ((.bool true),H)) (
 (a8 (.int .u8) .geq (strip (strip (strip (strip (strip (strip (strip (strip (strip (strip (strip a0))))))))))) (.int .u8 94)).bind fun x175 =>
 j8 x175 (
 (a8 (.int .u8) .leq (strip (strip (strip (strip (strip (strip (strip (strip (strip (strip (strip (strip a0)))))))))))) (.int .u8 96)).bind fun x178 =>
 j8 x178 (
 some ((.bool true),H)) (
 (a8 (.int .u8) .geq (strip (strip (strip (strip (strip (strip (strip (strip (strip (strip (strip (strip (strip a0))))))))))))) (.int .u8 123)).bind fun x185 =>
 j8 x185 (
 (a8 (.int .u8) .leq (strip (strip (strip (strip (strip (strip (strip (strip (strip (strip (strip (strip (strip (strip a0)))))))))))))) (.int .u8 126)).bind fun x188 =>
 some (x188,H)) (
 some ((.bool false),H)))) (
 (a8 (.int .u8) .geq (strip (strip (strip (strip (strip (strip (strip (strip (strip (strip (strip (strip a0)))))))))))) (.int .u8 123)).bind fun x199 =>
 j8 x199 (
 (a8 (.int .u8) .leq (strip (strip (strip (strip (strip (strip (strip (strip (strip (strip (strip (strip (strip a0))))))))))))) (.int .u8 126)).bind fun x202 =>
 some (x202,H)) (
 some ((.bool false),H))))))))))) (
 (a8 (.int .u8) .eql (strip (strip (strip (strip a0)))) (.int .u8 42)).bind fun x213 =>
 j8 x213 (
 some ((.bool true),H)) (
 (a8 (.int .u8) .eql (strip (strip (strip (strip (strip a0))))) (.int .u8 43)).bind fun x231 =>
 j8 x231 (
 some ((.bool true),H)) (
 (a8 (.int .u8) .eql (strip (strip (strip (strip (strip (strip a0)))))) (.int .u8 45)).bind fun x247 =>
 j8 x247 (
 some ((.bool true),H)) (
 (a8 (.int .u8) .eql (strip (strip (strip (strip (strip (strip (strip a0))))))) (.int .u8 47)).bind fun x261 =>
 j8 x261 (
 some ((.bool true),H)) (
 (a8 (.int .u8) .eql (strip (strip (strip (strip (strip (strip (strip (strip a0)))))))) (.int .u8 61)).bind fun x273 =>
 j8 x273 (
 some ((.bool true),H)) (
 (a8 (.int .u8) .eql (strip (strip (strip (strip (strip (strip (strip (strip (strip a0))))))))) (.int .u8 63)).bind fun x283 =>
 j8 x283 (
 some ((.bool true),H)) (
 (a8 (.int .u8) .geq (strip (strip (strip (strip (strip (strip (strip (strip (strip (strip a0)))))))))) (.int .u8 94)).bind fun x291 =>
 j8 x291 (
 (a8 (.int .u8) .leq (strip (strip (strip (strip (strip (strip (strip (strip (strip (strip (strip a0))))))))))) (.int .u8 96)).bind fun x294 =>
 j8 x294 (
 some ((.bool true),H)) (
 (a8 (.int .u8) .geq (strip (strip (strip (strip (strip (strip (strip (strip (strip (strip (strip (strip a0)))))))))))) (.int .u8 123)).bind fun x301 =>
 j8 x301 (
 (a8 (.int .u8) .leq (strip (strip (strip (strip (strip (strip (strip (strip (strip (strip (strip (strip (strip a0))))))))))))) (.int .u8 126)).bind fun x304 =>
 some (x304,H)) (
 some ((.bool false),H)))) (
 (a8 (.int .u8) .geq (strip (strip (strip (strip (strip (strip (strip (strip (strip (strip (strip a0))))))))))) (.int .u8 123)).bind fun x315 =>
 j8 x315 (
 (a8 (.int .u8) .leq (strip (strip (strip (strip (strip (strip (strip (strip (strip (strip (strip (strip a0)))))))))))) (.int .u8 126)).bind fun x318 =>
 some (x318,H)) (
 some ((.bool false),H))))))))))))):=(j6 vb _ _ _ rfl).trans (by kernel_rfl)
theorem ajW (a0:V) (H:VH):cv R6 [a0] H =
 (a8 (.int .u8) .geq a0 (.int .u8 97)).bind fun x2 =>
 j8 x2 (
 (a8 (.int .u8) .leq (strip a0) (.int .u8 122)).bind fun x5 =>
 j8 x5 (
 some ((.bool true),H)) (
 (a8 (.int .u8) .geq (strip (strip a0)) (.int .u8 65)).bind fun x11 =>
 j8 x11 (
 (a8 (.int .u8) .leq (strip (strip (strip a0))) (.int .u8 90)).bind fun x14 =>
 some (x14,H)) (
 some ((.bool false),H)))) (
 (a8 (.int .u8) .geq (strip a0) (.int .u8 65)).bind fun x24 =>
 j8 x24 (
 (a8 (.int .u8) .leq (strip (strip a0)) (.int .u8 90)).bind fun x27 =>
 some (x27,H)) (
 some ((.bool false),H))):=(j6 vb _ _ _ rfl).trans (by kernel_rfl)
theorem alI (a0:V) (H:VH):cv Z8 [a0] H =
 (a8 (.int .u8) .geq a0 (.int .u8 48)).bind fun x2 =>
 j8 x2 (
 (a8 (.int .u8) .leq (strip a0) (.int .u8 57)).bind fun x5 =>
 some (x5,H)) (
 some ((.bool false),H)):=(j6 vb _ _ _ rfl).trans (by kernel_rfl)
noncomputable def adv:List V->VH->Option (Option Nat × List V × VH):=w8 (vb.ctx cv l3) (vb.b.D7 47) (vb.y4 47) ⟨⟨[22,23,24],[(1,(1,0))],[(1,3)]⟩,[(.exit 0,⟨[],[(1,(1,0))],[(1,3)]⟩),(.ret,⟨[2],[],[]⟩)]⟩ (w7 Tryz.f47 4)
theorem agr (v0 v1 v2 v3 v4 v5:V) (H:VH):adv [v0,v1,v2,v3,v4,v5] H =
 (a8 (.int .i64) .lss v2 v1).bind fun x33 =>
 j5 x33 (
 (A1 2 v0 (strip v2)).bind fun x35 =>
 (E3 y9 false true 2 x35 H).bind fun r37 =>
 (E6 2 r37.1).bind fun c41 =>
 (qc L7 [(j3 r37.2 (strip (c41.getD 0 .b7)))]).bind fun x44 =>
 (C9 .not x44).bind fun x45 =>
 j8 x45 (
 some (some 1,[(.bool false)],r37.2)) (
 (qc K8 [(j3 r37.2 (strip (c41.getD 1 .b7)))]).bind fun x55 =>
 (C9 .not x55).bind fun x56 =>
 j8 x56 (
 some (some 1,[(.bool false)],r37.2)) (
 (m9 (strip (c41.getD 1 .b7))).bind fun x65 =>
 (a8 (.int .i64) .gtr x65 (.int .i64 40)).bind fun x66 =>
 j8 x66 (
 some (some 1,[(.bool false)],r37.2)) (
 (F1 2 (strip v5) none (some v2)).bind fun x74 =>
 (qc aaj [(j3 r37.2 x74),(j3 r37.2 (strip (c41.getD 0 .b7)))]).bind fun x77 =>
 (a8 (.int .i64) .geq x77 (.int .i64 0)).bind fun x78 =>
 j5 x78 (
 some (some 1,[(.bool false)],r37.2)) (
 (a8 (.int .i64) .add (strip v2) (.int .i64 1)).bind fun x81 =>
 some (none,[v0,v1,x81,v3,v4,v5],r37.2)))))) (
 some (some 0,[v3,v4,v5],H)):=by kernel_rfl
theorem ajm (a0:V) (H:VH):cv O8 [a0] H =
 (E6 3 a0).bind fun c1 =>
 (id (
 (qc L7 [(j3 H (strip (c1.getD 0 .b7)))]).bind fun x5 =>
 (C9 .not x5).bind fun x6 =>
 j8 x6 (
 some (0,[(.bool false)],H)) (
 (qc L7 [(j3 H (strip (c1.getD 1 .b7)))]).bind fun x14 =>
 (C9 .not x14).bind fun x15 =>
 j8 x15 (
 some (0,[(.bool false)],H)) (
 (y0 (strip (c1.getD 2 .b7))).bind fun x22 =>
 (a8 (.int .i64) .gtr x22 (.int .i64 4)).bind fun x23 =>
 j5 x23 (
 some (0,[(.bool false)],H)) (
 some (1,[(c1.getD 0 .b7),(c1.getD 1 .b7),(c1.getD 2 .b7)],H)))):Option (Nat × List V × VH))).bind fun r26 =>
 u4 r26.1 [
 j4 1 r26.2.1 fun v27 =>
 some ((v27 0),r26.2.2),
 j4 3 r26.2.1 fun v28 =>
 (y0 (strip (v28 2))).bind fun x31 =>
 (l3 adv [(strip (v28 2)),x31,(.int .i64 0),(v28 0),(v28 1),(v28 2)] r26.2.2).bind fun r83 =>
 u4 r83.1 [
 j4 3 r83.2.1 fun v84 =>
 (qc Q5 [(j3 r83.2.2 (.agg [(strip (v84 0)),(strip (v84 1)),(strip (v84 2))]))]).bind fun x86 =>
 (m9 x86).bind fun x87 =>
 (a8 (.int .i64) .leq x87 (.int .i64 150)).bind fun x88 =>
 some (x88,r83.2.2),
 j4 1 r83.2.1 fun v90 =>
 some ((v90 0),r83.2.2)]]:=(j6 vb _ _ _ rfl).trans (by kernel_rfl)
theorem ahi (a0:V) (H:VH):cv L7 [a0] H =
 (qc aco [(j3 H a0)]).bind fun x2 =>
 j8 x2 (
 (qc D5 [(j3 H (strip a0))]).bind fun x5 =>
 (a8 .str .eql x5 (strip (strip a0))).bind fun x7 =>
 some (x7,H)) (
 some ((.bool false),H)):=(j6 vb _ _ _ rfl).trans (by kernel_rfl)
theorem amt (a0:V) (H:VH):cv aco [a0] H =
 (m9 a0).bind fun x2 =>
 (a8 (.int .i64) .geq x2 (.int .i64 1)).bind fun x3 =>
 j8 x3 (
 (m9 (strip a0)).bind fun x6 =>
 (a8 (.int .i64) .leq x6 (.int .i64 30)).bind fun x7 =>
 j8 x7 (
 (l8 (strip (strip a0)) (.int .i64 0)).bind fun x11 =>
 (qc R6 [(j3 H x11)]).bind fun x12 =>
 j8 x12 (
 (qc X5 [(j3 H (strip (strip (strip a0)))),(j3 H (.fn Y6 []))]).bind fun x16 =>
 some (x16,H)) (
 some ((.bool false),H))) (
 some ((.bool false),H))) (
 some ((.bool false),H)):=(j6 vb _ _ _ rfl).trans (by kernel_rfl)
noncomputable def W9:List V->VH->Option (Option Nat × List V × VH):=w8 (vb.ctx cv l3) (vb.b.D7 174) (vb.y4 174) ⟨⟨[0,1,7,8],[],[]⟩,[(.exit 0,⟨[],[],[]⟩),(.ret,⟨[4],[],[]⟩)]⟩ (w7 Tryz.f174 2)
theorem ach (v0 v1 v2 v3:V) (H:VH):W9 [v0,v1,v2,v3] H =
 (a8 (.int .i64) .lss v3 v2).bind fun x4 =>
 j5 x4 (
 (l8 v0 v3).bind fun x10 =>
 (agh v1).bind fun p12 =>
 (qc p12.1 ((([x10]:List V)++p12.2).map (j3 H))).bind fun x11 =>
 (C9 .not x11).bind fun x13 =>
 j5 x13 (
 some (some 1,[(.bool false)],H)) (
 (a8 (.int .i64) .add (strip v3) (.int .i64 1)).bind fun x15 =>
 some (none,[(strip v0),(strip v1),v2,x15],H))) (
 some (some 0,[],H)):=by kernel_rfl
theorem ajN (a0 a1:V) (H:VH):cv X5 [a0,a1] H =
 (m9 a0).bind fun x2 =>
 (l3 W9 [(strip a0),a1,x2,(.int .i64 0)] H).bind fun r17 =>
 u4 r17.1 [
 j4 0 r17.2.1 fun v18 =>
 some ((.bool true),r17.2.2),
 j4 1 r17.2.1 fun v20 =>
 some ((v20 0),r17.2.2)]:=(j6 vb _ _ _ rfl).trans (by kernel_rfl)
theorem akv (a0:V) (H:VH):cv Y6 [a0] H =
 (qc R6 [(j3 H a0)]).bind fun x2 =>
 j8 x2 (
 some ((.bool true),H)) (
 (qc Z8 [(j3 H (strip a0))]).bind fun x9 =>
 j8 x9 (
 some ((.bool true),H)) (
 (a8 (.int .u8) .eql (strip (strip a0)) (.int .u8 45)).bind fun x15 =>
 some (x15,H))):=(j6 vb _ _ _ rfl).trans (by kernel_rfl)
theorem aid (a0 a1:V) (H:VH):cv aaj [a0,a1] H =
 (y3 a1).bind fun y1 =>
 (qc C1 [(j3 (H++[[y1]]) (strip a0)),(j3 (H++[[y1]]) (.fn G0 [(.ptr H.length 0)]))]).bind fun x5 =>
 some (x5,(H++[[y1]])):=(j6 vb _ _ _ rfl).trans (by kernel_rfl)
theorem agq (a0 a1:V) (H:VH):cv G0 [a0,a1] H =
 (E6 2 a0).bind fun c1 =>
 (E3 y9 false false 1 a1 H).bind fun r6 =>
 (qc aby [(j3 r6.2 (strip (c1.getD 0 .b7))),(j3 r6.2 r6.1)]).bind fun x7 =>
 some (x7,r6.2):=(j6 vb _ _ _ rfl).trans (by kernel_rfl)
theorem akf (a0 a1:V) (H:VH):cv aby [a0,a1] H =
 (qc D5 [(j3 H a0)]).bind fun x2 =>
 (qc D5 [(j3 H a1)]).bind fun x4 =>
 (a8 .str .eql x2 x4).bind fun x5 =>
 some (x5,H):=(j6 vb _ _ _ rfl).trans (by kernel_rfl)
noncomputable def y8:List V->VH->Option (Option Nat × List V × VH):=w8 (vb.ctx cv l3) (vb.b.D7 152) (vb.y4 152) ⟨⟨[0,1,7,8],[],[]⟩,[(.exit 0,⟨[],[],[]⟩),(.ret,⟨[4],[],[]⟩)]⟩ (w7 Tryz.f152 2)
theorem F9 (v0 v1 v2 v3:V) (H:VH):y8 [v0,v1,v2,v3] H =
 (a8 (.int .i64) .lss v3 v2).bind fun x4 =>
 j5 x4 (
 (A1 2 (strip v0) v3).bind fun x10 =>
 (E3 y9 false true 2 x10 H).bind fun r12 =>
 (agh v1).bind fun p14 =>
 (qc p14.1 ((([r12.1]:List V)++p14.2).map (j3 r12.2))).bind fun x13 =>
 j5 x13 (
 some (some 1,[(strip v3)],r12.2)) (
 (a8 (.int .i64) .add (strip v3) (.int .i64 1)).bind fun x17 =>
 some (none,[v0,(strip v1),v2,x17],r12.2))) (
 some (some 0,[],H)):=by kernel_rfl
theorem T6 (a0 a1:V) (H:VH):cv C1 [a0,a1] H =
 (y0 (strip a0)).bind fun x2 =>
 (l3 y8 [a0,a1,x2,(.int .i64 0)] H).bind fun r19 =>
 u4 r19.1 [
 j4 0 r19.2.1 fun v20 =>
 some ((.int .i64 (-1)),r19.2.2),
 j4 1 r19.2.1 fun v22 =>
 some ((v22 0),r19.2.2)]:=(j6 vb _ _ _ rfl).trans (by kernel_rfl)
noncomputable def aet:List V->VH->Option (Option Nat × List V × VH):=w8 (vb.ctx cv l3) (vb.b.D7 55) (vb.y4 55) ⟨⟨[3,13,14,15],[],[]⟩,[(.exit 0,⟨[3],[],[]⟩)]⟩ (w7 Tryz.f55 3)
theorem ahj (v0 v1 v2 v3:V) (H:VH):aet [v0,v1,v2,v3] H =
 (a8 (.int .i64) .lss v3 v2).bind fun x14 =>
 j5 x14 (
 (A1 2 v1 v3).bind fun x15 =>
 (E3 y9 false true 2 x15 H).bind fun r17 =>
 (E6 2 r17.1).bind fun c20 =>
 (a8 .str .add (.str [59,32]) (strip (c20.getD 0 .b7))).bind fun x24 =>
 (a8 .str .add x24 (.str [61])).bind fun x25 =>
 (qc V0 [(j3 r17.2 (strip (c20.getD 1 .b7)))]).bind fun x28 =>
 (a8 .str .add x25 x28).bind fun x29 =>
 (a8 .str .add v0 x29).bind fun x30 =>
 (a8 (.int .i64) .add v3 (.int .i64 1)).bind fun x32 =>
 some (none,[x30,v1,v2,x32],r17.2)) (
 some (some 0,[v0],H)):=by kernel_rfl
theorem akA (a0:V) (H:VH):cv Q5 [a0] H =
 (E6 3 a0).bind fun c1 =>
 (a8 .str .add (strip (c1.getD 0 .b7)) (.str [47])).bind fun x5 =>
 (a8 .str .add x5 (strip (c1.getD 1 .b7))).bind fun x8 =>
 (y0 (strip (c1.getD 2 .b7))).bind fun x12 =>
 (l3 aet [x8,(strip (c1.getD 2 .b7)),x12,(.int .i64 0)] H).bind fun r34 =>
 u4 r34.1 [
 j4 1 r34.2.1 fun v35 =>
 some ((v35 0),r34.2.2)]:=(j6 vb _ _ _ rfl).trans (by kernel_rfl)
noncomputable def adn:List V->VH->Option (Option Nat × List V × VH):=w8 (vb.ctx cv l3) (vb.b.D7 77) (vb.y4 77) ⟨⟨[0,3,15,16],[],[]⟩,[(.exit 1,⟨[3],[],[]⟩)]⟩ (w7 Tryz.f77 7)
theorem agj (v0 v1 v2 v3:V) (H:VH):adn [v0,v1,v2,v3] H =
 (a8 (.int .i64) .lss v3 v2).bind fun x16 =>
 j5 x16 (
 (id (
 (l8 v0 v3).bind fun x21 =>
 (a8 (.int .u8) .eql x21 (.int .u8 34)).bind fun x22 =>
 j8 x22 (
 (Z6 v1).bind fun s28 =>
 (I5 false 1 1 s28 (.sl true [[(.int .u8 92)]])).bind fun x27 =>
 some (0,[(strip v0),x27,(strip v3),v2,(strip v3)],H)) (
 (l8 (strip v0) (strip v3)).bind fun x32 =>
 (a8 (.int .u8) .eql x32 (.int .u8 92)).bind fun x33 =>
 j5 x33 (
 (Z6 v1).bind fun s38 =>
 (I5 false 1 1 s38 (.sl true [[(.int .u8 92)]])).bind fun x37 =>
 some (0,[(strip (strip v0)),x37,(strip (strip v3)),v2,(strip v3)],H)) (
 some (0,[(strip (strip v0)),v1,(strip (strip v3)),v2,(strip v3)],H))):Option (Nat × List V × VH))).bind fun r40 =>
 u4 r40.1 [
 j4 5 r40.2.1 fun v41 =>
 (l8 (v41 0) (v41 2)).bind fun x45 =>
 (y3 x45).bind fun y47 =>
 (Z6 (v41 1)).bind fun s49 =>
 (I5 false 1 1 s49 (.sl true [[y47]])).bind fun x48 =>
 (a8 (.int .i64) .add (v41 4) (.int .i64 1)).bind fun x51 =>
 some (none,[(strip (v41 0)),x48,(v41 3),x51],r40.2.2)]) (
 some (some 0,[v1],H)):=by kernel_rfl
theorem ajj (a0:V) (H:VH):cv V0 [a0] H =
 (qc K8 [(j3 H a0)]).bind fun x2 =>
 (C9 .not x2).bind fun x3 =>
 j5 x3 (
 some ((.str []),H)) (
 (qc aa9 [(j3 H (strip a0))]).bind fun x7 =>
 j5 x7 (
 some ((strip (strip a0)),H)) (
 (m9 (strip (strip a0))).bind fun x14 =>
 (l3 adn [(strip (strip (strip a0))),(.sl true [[(.int .u8 34)]]),x14,(.int .i64 0)] H).bind fun r53 =>
 u4 r53.1 [
 j4 1 r53.2.1 fun v54 =>
 (Z6 (v54 0)).bind fun s58 =>
 (I5 false 1 1 s58 (.sl true [[(.int .u8 34)]])).bind fun x57 =>
 (aan x57 r53.2.2).bind fun x59 =>
 some (x59,r53.2.2)])):=(j6 vb _ _ _ rfl).trans (by kernel_rfl)
theorem ajk (a0:V) (H:VH):cv aa9 [a0] H =
 (m9 a0).bind fun x2 =>
 (a8 (.int .i64) .geq x2 (.int .i64 1)).bind fun x3 =>
 j8 x3 (
 (m9 (strip a0)).bind fun x6 =>
 (a8 (.int .i64) .leq x6 (.int .i64 40)).bind fun x7 =>
 j8 x7 (
 (qc X5 [(j3 H (strip (strip a0))),(j3 H (.fn N4 []))]).bind fun x11 =>
 some (x11,H)) (
 some ((.bool false),H))) (
 some ((.bool false),H)):=(j6 vb _ _ _ rfl).trans (by kernel_rfl)
noncomputable def adt:List V->VH->Option (Option Nat × List V × VH):=w8 (vb.ctx cv l3) (vb.b.D7 15) (vb.y4 15) ⟨⟨[5,6,9],[(2,(2,0)),(10,(10,0))],[(2,3),(10,3)]⟩,[(.exit 0,⟨[9],[(2,(2,0)),(10,(10,0))],[(2,3),(10,3)]⟩),(.ret,⟨[3],[(2,(2,0))],[(2,3)]⟩)]⟩ (w7 Tryz.f15 6)
theorem agZ (v0 v1 v2 v3 v4 v5 v6 v7 v8:V) (H:VH):adt [v0,v1,v2,v3,v4,v5,v6,v7,v8] H =
 j5 v1 (
 (qc D6 [(j3 H v0),(j3 H (.int .u8 59))]).bind fun x39 =>
 (n9 x39 0).bind fun x41 =>
 (n9 x39 1).bind fun x42 =>
 (n9 x39 2).bind fun x43 =>
 (qc J0 [(j3 H (strip x41))]).bind fun x48 =>
 (qc D6 [(j3 H x48),(j3 H (.int .u8 61))]).bind fun x49 =>
 (n9 x49 0).bind fun x51 =>
 (n9 x49 1).bind fun x52 =>
 (n9 x49 2).bind fun x53 =>
 (qc J0 [(j3 H (strip x52))]).bind fun x58 =>
 (pc T4 [(j3 H x58)]).bind fun x59 =>
 (n9 x59 0).bind fun x61 =>
 (n9 x59 1).bind fun x62 =>
 (id (
 (C9 .not (strip x53)).bind fun x66 =>
 j8 x66 (
 some (0,[(.bool false),(.str []),(.str []),(.sl true [])],H)) (
 (C9 .not (strip x62)).bind fun x75 =>
 j8 x75 (
 some (0,[(.bool false),(.str []),(.str []),(.sl true [])],H)) (
 (y0 (strip (strip (strip x61)))).bind fun x83 =>
 (a8 (.int .i64) .neq x83 (.int .i64 1)).bind fun x84 =>
 j5 x84 (
 some (0,[(.bool false),(.str []),(.str []),(.sl true [])],H)) (
 some (1,[(strip x42),(strip x43),v2,(strip x51),(strip (strip x61)),v3,v4,v5,v6,v7,v8],H)))):Option (Nat × List V × VH))).bind fun r89 =>
 u4 r89.1 [
 j4 4 r89.2.1 fun v90 =>
 some (some 1,[(v90 0),(v90 1),(v90 2),(v90 3)],r89.2.2),
 j4 11 r89.2.1 fun v91 =>
 (qc J0 [(j3 r89.2.2 (v91 3))]).bind fun x95 =>
 (qc D4 [(j3 r89.2.2 x95)]).bind fun x96 =>
 (A1 1 (strip (v91 4)) (.int .i64 0)).bind fun x98 =>
 (E3 y9 false false 1 x98 r89.2.2).bind fun r100 =>
 (y3 x96).bind fun y102 =>
 (y3 r100.1).bind fun y103 =>
 (Z6 (v91 10)).bind fun s106 =>
 (I5 false 2 32 s106 (.sl true [[y102,y103]])).bind fun x105 =>
 (y3 x105).bind fun y109 =>
 some (none,[(v91 0),(v91 1),(v91 2),(v91 5),(v91 6),(v91 7),(v91 8),(v91 9),y109],r100.2)]) (
 some (some 0,[v2,v3,v4,v5,v6,v7,v8],H)):=by kernel_rfl
theorem ajh (a0:V) (H:VH):cv V2 [a0] H =
 (qc O9 [(j3 H a0)]).bind fun x3 =>
 (C9 .not x3).bind fun x4 =>
 j5 x4 (
 some ((.n8 [(.agg [(.str []),(.str []),(.sl true [])]),(.bool false)]),H)) (
 (qc D6 [(j3 H (strip a0)),(j3 H (.int .u8 59))]).bind fun x9 =>
 (n9 x9 0).bind fun x11 =>
 (n9 x9 1).bind fun x12 =>
 (n9 x9 2).bind fun x13 =>
 (qc J0 [(j3 H (strip x11))]).bind fun x18 =>
 (qc D6 [(j3 H x18),(j3 H (.int .u8 47))]).bind fun x19 =>
 (n9 x19 0).bind fun x21 =>
 (n9 x19 1).bind fun x22 =>
 (n9 x19 2).bind fun x23 =>
 (qc D4 [(j3 H (strip x21))]).bind fun x28 =>
 (qc D4 [(j3 H (strip x22))]).bind fun x30 =>
 (y3 x28).bind fun y32 =>
 (y3 x30).bind fun y33 =>
 (l3 adt [(strip x12),(strip x13),(strip x23),(.str []),(.str []),(.sl true []),y32,y33,(.sl true [])] H).bind fun r110 =>
 u4 r110.1 [
 j4 7 r110.2.1 fun v111 =>
 (id (
 (C9 .not (v111 0)).bind fun x113 =>
 j8 x113 (
 some (0,[(.bool false),(.str []),(.str []),(.sl true [])],r110.2.2)) (
 (qc O6 [(j3 r110.2.2 (.agg [(strip (v111 4)),(strip (v111 5)),(strip (v111 6))]))]).bind fun x120 =>
 (C9 .not x120).bind fun x121 =>
 j5 x121 (
 some (0,[(.bool false),(.str []),(.str []),(.sl true [])],r110.2.2)) (
 some (1,[(v111 1),(v111 2),(v111 3),(v111 4),(v111 5),(v111 6)],r110.2.2))):Option (Nat × List V × VH))).bind fun r126 =>
 u4 r126.1 [
 j4 4 r126.2.1 fun v127 =>
 some ((.n8 [(.agg [(v127 1),(v127 2),(v127 3)]),(v127 0)]),r126.2.2),
 j4 6 r126.2.1 fun v128 =>
 some ((.n8 [(.agg [(v128 3),(v128 4),(v128 5)]),(.bool true)]),r126.2.2)],
 j4 4 r110.2.1 fun v132 =>
 some ((.n8 [(.agg [(v132 1),(v132 2),(v132 3)]),(v132 0)]),r110.2.2)]):=(j6 vb _ _ _ rfl).trans (by kernel_rfl)
noncomputable def ahe:List V->VH->Option (Option Nat × List V × VH):=w8 (vb.ctx cv l3) (vb.b.D7 49) (vb.y4 49) ⟨⟨[0,1,7],[],[]⟩,[(.exit 0,⟨[0],[],[]⟩),(.ret,⟨[4,5,6],[],[]⟩)]⟩ (w7 Tryz.f49 2)
theorem ajS (v0 v1 v2:V) (H:VH):ahe [v0,v1,v2] H =
 (m9 v0).bind fun x6 =>
 (a8 (.int .i64) .lss v2 x6).bind fun x7 =>
 j5 x7 (
 (l8 (strip v0) (strip v2)).bind fun x10 =>
 (a8 (.int .u8) .eql x10 (.int .u8 34)).bind fun x11 =>
 j5 x11 (
 (qc W5 [(j3 H (strip (strip v0))),(j3 H (strip (strip v2)))]).bind fun x14 =>
 (n9 x14 0).bind fun x16 =>
 (n9 x14 1).bind fun x17 =>
 (a8 (.int .i64) .lss (strip x17) (.int .i64 0)).bind fun x21 =>
 j5 x21 (
 some (some 1,[(strip (strip (strip v0))),(.str []),(.bool false)],H)) (
 some (none,[(strip (strip (strip v0))),v1,(strip (strip x17))],H))) (
 (l8 (strip (strip v0)) (strip (strip v2))).bind fun x30 =>
 (a8 (.int .u8) .eql x30 v1).bind fun x32 =>
 j5 x32 (
 (w5 (strip (strip (strip v0))) none (some (strip (strip (strip v2))))).bind fun x35 =>
 (a8 (.int .i64) .add (strip (strip (strip (strip v2)))) (.int .i64 1)).bind fun x38 =>
 (w5 (strip (strip (strip (strip v0)))) (some x38) none).bind fun x39 =>
 some (some 1,[x35,x39,(.bool true)],H)) (
 (a8 (.int .i64) .add (strip (strip (strip v2))) (.int .i64 1)).bind fun x44 =>
 some (none,[(strip (strip (strip v0))),(strip v1),x44],H)))) (
 some (some 0,[(strip v0)],H)):=by kernel_rfl
theorem anx (a0 a1:V) (H:VH):cv D6 [a0,a1] H =
 (l3 ahe [a0,a1,(.int .i64 0)] H).bind fun r46 =>
 u4 r46.1 [
 j4 1 r46.2.1 fun v47 =>
 some ((.n8 [(v47 0),(.str []),(.bool false)]),r46.2.2),
 j4 3 r46.2.1 fun v52 =>
 some ((.n8 [(v52 0),(v52 1),(v52 2)]),r46.2.2)]:=(j6 vb _ _ _ rfl).trans (by kernel_rfl)
noncomputable def af5:List V->VH->Option (Option Nat × List V × VH):=w8 (vb.ctx cv l3) (vb.b.D7 96) (vb.y4 96) ⟨⟨[0,6,7],[],[]⟩,[(.exit 0,⟨[],[],[]⟩),(.ret,⟨[4,5],[],[]⟩)]⟩ (w7 Tryz.f96 3)
theorem ajg (v0 v1 v2:V) (H:VH):af5 [v0,v1,v2] H =
 (m9 v0).bind fun x8 =>
 (a8 (.int .i64) .lss v2 x8).bind fun x9 =>
 j5 x9 (
 (id (
 (l8 (strip v0) (strip v2)).bind fun x12 =>
 (a8 (.int .u8) .eql x12 (.int .u8 34)).bind fun x13 =>
 j5 x13 (
 (a8 (.int .i64) .add (strip (strip v2)) (.int .i64 1)).bind fun x16 =>
 some (0,[v1,x16],H)) (
 (id (
 (l8 (strip (strip v0)) (strip (strip v2))).bind fun x21 =>
 (a8 (.int .u8) .eql x21 (.int .u8 92)).bind fun x22 =>
 j5 x22 (
 (a8 (.int .i64) .add (strip (strip (strip v2))) (.int .i64 1)).bind fun x24 =>
 (m9 (strip (strip (strip v0)))).bind fun x28 =>
 (a8 (.int .i64) .eql x24 x28).bind fun x29 =>
 j5 x29 (
 some (0,[(.str []),(.int .i64 (-1))],H)) (
 some (1,[(strip (strip (strip (strip v0)))),v1,(strip x24)],H))) (
 some (1,[(strip (strip (strip v0))),v1,(strip (strip (strip v2)))],H)):Option (Nat × List V × VH))).bind fun r32 =>
 u4 r32.1 [
 j4 2 r32.2.1 fun v33 =>
 some (0,[(v33 0),(v33 1)],r32.2.2),
 j4 3 r32.2.1 fun v34 =>
 (a8 (.int .i64) .add (strip (v34 2)) (.int .i64 1)).bind fun x39 =>
 (w5 (v34 0) (some (v34 2)) (some x39)).bind fun x40 =>
 (a8 .str .add (v34 1) x40).bind fun x41 =>
 some (1,[(strip (v34 0)),x41,(strip (strip (v34 2)))],r32.2.2)]):Option (Nat × List V × VH))).bind fun r43 =>
 u4 r43.1 [
 j4 2 r43.2.1 fun v44 =>
 some (some 1,[(v44 0),(v44 1)],r43.2.2),
 j4 3 r43.2.1 fun v45 =>
 (a8 (.int .i64) .add (v45 2) (.int .i64 1)).bind fun x47 =>
 some (none,[(v45 0),(v45 1),x47],r43.2.2)]) (
 some (some 0,[],H)):=by kernel_rfl
theorem alU (a0 a1:V) (H:VH):cv W5 [a0,a1] H =
 (a8 (.int .i64) .add a1 (.int .i64 1)).bind fun x4 =>
 (l3 af5 [a0,(.str []),x4] H).bind fun r49 =>
 u4 r49.1 [
 j4 0 r49.2.1 fun v50 =>
 some ((.n8 [(.str []),(.int .i64 (-1))]),r49.2.2),
 j4 2 r49.2.1 fun v53 =>
 some ((.n8 [(v53 0),(v53 1)]),r49.2.2)]:=(j6 vb _ _ _ rfl).trans (by kernel_rfl)
noncomputable def afD:List V->VH->Option (Option Nat × List V × VH):=w8 (vb.ctx cv l3) (vb.b.D7 50) (vb.y4 50) ⟨⟨[0],[],[]⟩,[(.exit 0,⟨[0],[],[]⟩)]⟩ (w7 Tryz.f50 1)
noncomputable def aga:List V->VH->Option (Option Nat × List V × VH):=w8 (vb.ctx cv l3) (vb.b.D7 50) (vb.y4 50) ⟨⟨[0],[],[]⟩,[(.exit 2,⟨[0],[],[]⟩)]⟩ (w7 Tryz.f50 3)
theorem ai9 (v0:V) (H:VH):afD [v0] H =
 (id (
 (m9 v0).bind fun x2 =>
 (a8 (.int .i64) .gtr x2 (.int .i64 0)).bind fun x3 =>
 j8 x3 (
 (l8 (strip v0) (.int .i64 0)).bind fun x6 =>
 (a8 (.int .u8) .eql x6 (.int .u8 32)).bind fun x7 =>
 j5 x7 (
 some (0,[(strip (strip v0))],H)) (
 some (1,[(strip (strip v0))],H))) (
 some (1,[(strip v0)],H)):Option (Nat × List V × VH))).bind fun r10 =>
 u4 r10.1 [
 j4 1 r10.2.1 fun v11 =>
 (w5 (v11 0) (some (.int .i64 1)) none).bind fun x13 =>
 some (none,[x13],r10.2.2),
 j4 1 r10.2.1 fun v15 =>
 some (some 0,[(v15 0)],r10.2.2)]:=by kernel_rfl
theorem ai5 (v0:V) (H:VH):aga [v0] H =
 (id (
 (m9 v0).bind fun x19 =>
 (a8 (.int .i64) .gtr x19 (.int .i64 0)).bind fun x20 =>
 j8 x20 (
 (m9 (strip (strip v0))).bind fun x24 =>
 (a8 (.int .i64) .sub x24 (.int .i64 1)).bind fun x25 =>
 (l8 (strip v0) x25).bind fun x26 =>
 (a8 (.int .u8) .eql x26 (.int .u8 32)).bind fun x27 =>
 j5 x27 (
 some (0,[(strip (strip (strip v0)))],H)) (
 some (1,[(strip (strip (strip v0)))],H))) (
 some (1,[(strip v0)],H)):Option (Nat × List V × VH))).bind fun r30 =>
 u4 r30.1 [
 j4 1 r30.2.1 fun v31 =>
 (m9 (strip (v31 0))).bind fun x34 =>
 (a8 (.int .i64) .sub x34 (.int .i64 1)).bind fun x35 =>
 (w5 (v31 0) none (some x35)).bind fun x36 =>
 some (none,[x36],r30.2.2),
 j4 1 r30.2.1 fun v38 =>
 some (some 0,[(v38 0)],r30.2.2)]:=by kernel_rfl
theorem alX (a0:V) (H:VH):cv J0 [a0] H =
 (l3 afD [a0] H).bind fun r16 =>
 u4 r16.1 [
 j4 1 r16.2.1 fun v17 =>
 (l3 aga [(v17 0)] r16.2.2).bind fun r39 =>
 u4 r39.1 [
 j4 1 r39.2.1 fun v40 =>
 some ((v40 0),r39.2.2)]]:=(j6 vb _ _ _ rfl).trans (by kernel_rfl)
noncomputable def abx:List V->VH->Option (Option Nat × List V × VH):=w8 (vb.ctx cv l3) (vb.b.D7 52) (vb.y4 52) ⟨⟨[0,4,5,6],[],[]⟩,[(.exit 2,⟨[0,4,5,6],[],[]⟩)]⟩ (w7 Tryz.f52 12)
noncomputable def aeG:List V->VH->Option (Option Nat × List V × VH):=w8 (vb.ctx cv l3) (vb.b.D7 52) (vb.y4 52) ⟨⟨[0,4,5],[],[]⟩,[(.exit 0,⟨[4],[],[]⟩),(.ret,⟨[2,3],[],[]⟩)]⟩ (w7 Tryz.f52 3)
theorem ahl (v0 v1 v2 v3:V) (H:VH):abx [v0,v1,v2,v3] H =
 (id (
 (m9 v0).bind fun x38 =>
 (a8 (.int .i64) .lss v2 x38).bind fun x39 =>
 j8 x39 (
 (l8 (strip v0) (strip v2)).bind fun x43 =>
 (qc aaM [(j3 H x43)]).bind fun x44 =>
 j5 x44 (
 some (0,[(strip (strip v0)),v1,(strip (strip v2)),v3],H)) (
 some (1,[(strip (strip v0)),v1,(strip (strip v2)),v3],H))) (
 some (1,[(strip v0),v1,(strip v2),v3],H)):Option (Nat × List V × VH))).bind fun r47 =>
 u4 r47.1 [
 j4 4 r47.2.1 fun v48 =>
 (a8 (.int .i64) .add (v48 2) (.int .i64 1)).bind fun x50 =>
 some (none,[(v48 0),(v48 1),x50,(v48 3)],r47.2.2),
 j4 4 r47.2.1 fun v52 =>
 some (some 0,[(v52 0),(v52 1),(v52 2),(v52 3)],r47.2.2)]:=by kernel_rfl
theorem ahR (v0 v1 v2:V) (H:VH):aeG [v0,v1,v2] H =
 (m9 v0).bind fun x7 =>
 (a8 (.int .i64) .lss v2 x7).bind fun x8 =>
 j5 x8 (
 (l8 (strip v0) (strip v2)).bind fun x11 =>
 (a8 (.int .u8) .eql x11 (.int .u8 32)).bind fun x12 =>
 j5 x12 (
 (a8 (.int .i64) .add (strip (strip v2)) (.int .i64 1)).bind fun x14 =>
 some (none,[(strip (strip v0)),v1,x14],H)) (
 (id (
 (l8 (strip (strip v0)) (strip (strip (strip v2)))).bind fun x21 =>
 (a8 (.int .u8) .eql x21 (.int .u8 34)).bind fun x22 =>
 j5 x22 (
 (qc W5 [(j3 H (strip (strip (strip v0)))),(j3 H (strip (strip (strip (strip v2)))))]).bind fun x25 =>
 (n9 x25 0).bind fun x27 =>
 (n9 x25 1).bind fun x28 =>
 (a8 (.int .i64) .lss (strip x28) (.int .i64 0)).bind fun x32 =>
 j5 x32 (
 some (0,[(.sl true []),(.bool false)],H)) (
 some (1,[(strip (strip (strip (strip v0)))),v1,(strip (strip x28)),(strip (strip v2)),(strip x27)],H))) (
 (l3 abx [(strip (strip (strip v0))),v1,(strip (strip (strip (strip v2)))),(strip (strip v2))] H).bind fun r53 =>
 u4 r53.1 [
 j4 4 r53.2.1 fun v54 =>
 (w5 (v54 0) (some (v54 3)) (some (v54 2))).bind fun x58 =>
 some (1,[(strip (v54 0)),(v54 1),(strip (v54 2)),(strip (v54 3)),x58],r53.2.2)]):Option (Nat × List V × VH))).bind fun r60 =>
 u4 r60.1 [
 j4 2 r60.2.1 fun v61 =>
 some (some 1,[(v61 0),(v61 1)],r60.2.2),
 j4 5 r60.2.1 fun v62 =>
 (id (
 (a8 (.int .i64) .eql (v62 2) (v62 3)).bind fun x65 =>
 j8 x65 (
 some (0,[(.sl true []),(.bool false)],r60.2.2)) (
 (m9 (v62 0)).bind fun x73 =>
 (a8 (.int .i64) .lss (strip (v62 2)) x73).bind fun x74 =>
 j8 x74 (
 (l8 (strip (v62 0)) (strip (strip (v62 2)))).bind fun x78 =>
 (a8 (.int .u8) .neq x78 (.int .u8 32)).bind fun x79 =>
 j5 x79 (
 some (0,[(.sl true []),(.bool false)],r60.2.2)) (
 some (1,[(strip (strip (v62 0))),(v62 1),(strip (strip (strip (v62 2)))),(v62 4)],r60.2.2))) (
 some (1,[(strip (v62 0)),(v62 1),(strip (strip (v62 2))),(v62 4)],r60.2.2))):Option (Nat × List V × VH))).bind fun r87 =>
 u4 r87.1 [
 j4 2 r87.2.1 fun v88 =>
 some (some 1,[(v88 0),(v88 1)],r87.2.2),
 j4 4 r87.2.1 fun v89 =>
 (y3 (v89 3)).bind fun y93 =>
 (Z6 (v89 1)).bind fun s95 =>
 (I5 false 1 16 s95 (.sl true [[y93]])).bind fun x94 =>
 some (none,[(v89 0),x94,(v89 2)],r87.2.2)]])) (
 some (some 0,[v1],H)):=by kernel_rfl
theorem alJ (a0:V) (H:VH):cv T4 [a0] H =
 (l3 aeG [a0,(.sl true []),(.int .i64 0)] H).bind fun r97 =>
 u4 r97.1 [
 j4 1 r97.2.1 fun v98 =>
 some ((.n8 [(v98 0),(.bool true)]),r97.2.2),
 j4 2 r97.2.1 fun v102 =>
 some ((.n8 [(v102 0),(v102 1)]),r97.2.2)]:=(j6 vb _ _ _ rfl).trans (by kernel_rfl)
theorem akt (a0 a1:V) (H:VH):cv W8 [a0,a1] H =
 (E6 3 a0).bind fun c1 =>
 (E6 3 a1).bind fun c3 =>
 (a8 .str .eql (strip (c1.getD 0 .b7)) (strip (c3.getD 0 .b7))).bind fun x9 =>
 j8 x9 (
 (a8 .str .eql (strip (c1.getD 1 .b7)) (strip (c3.getD 1 .b7))).bind fun x15 =>
 j8 x15 (
 (qc A6 [(j3 H (strip (c1.getD 2 .b7))),(j3 H (strip (c3.getD 2 .b7)))]).bind fun x22 =>
 some (x22,H)) (
 some ((.bool false),H))) (
 some ((.bool false),H)):=(j6 vb _ _ _ rfl).trans (by kernel_rfl)
noncomputable def K5:List V->VH->Option (Option Nat × List V × VH):=w8 (vb.ctx cv l3) (vb.b.D7 54) (vb.y4 54) ⟨⟨[0,1,12,13],[],[]⟩,[(.exit 0,⟨[],[],[]⟩),(.ret,⟨[4],[],[]⟩)]⟩ (w7 Tryz.f54 4)
theorem T9 (v0 v1 v2 v3:V) (H:VH):K5 [v0,v1,v2,v3] H =
 (a8 (.int .i64) .lss v3 v2).bind fun x10 =>
 j5 x10 (
 (A1 2 (strip v0) v3).bind fun x15 =>
 (E3 y9 false true 2 x15 H).bind fun r17 =>
 (A1 2 (strip v1) (strip v3)).bind fun x20 =>
 (E3 y9 false true 2 x20 r17.2).bind fun r22 =>
 (alq 2 .neq r17.1 r22.1).bind fun x23 =>
 j5 x23 (
 some (some 1,[(.bool false)],r22.2)) (
 (a8 (.int .i64) .add (strip v3) (.int .i64 1)).bind fun x25 =>
 some (none,[v0,v1,v2,x25],r22.2))) (
 some (some 0,[],H)):=by kernel_rfl
theorem Y2 (a0 a1:V) (H:VH):cv A6 [a0,a1] H =
 (y0 (strip a0)).bind fun x2 =>
 (y0 (strip a1)).bind fun x4 =>
 (a8 (.int .i64) .neq x2 x4).bind fun x5 =>
 j5 x5 (
 some ((.bool false),H)) (
 (y0 (strip a0)).bind fun x8 =>
 (l3 K5 [a0,a1,x8,(.int .i64 0)] H).bind fun r27 =>
 u4 r27.1 [
 j4 0 r27.2.1 fun v28 =>
 some ((.bool true),r27.2.2),
 j4 1 r27.2.1 fun v30 =>
 some ((v30 0),r27.2.2)]):=(j6 vb _ _ _ rfl).trans (by kernel_rfl)
noncomputable def adp:List V->VH->Option (Option Nat × List V × VH):=w8 (vb.ctx cv l3) (vb.b.D7 9) (vb.y4 9) ⟨⟨[3,4,12,13,14],[],[]⟩,[(.exit 0,⟨[4],[],[]⟩),(.ret,⟨[2],[],[]⟩)]⟩ (w7 Tryz.f9 5)
theorem agG (v0 v1 v2 v3 v4:V) (H:VH):adp [v0,v1,v2,v3,v4] H =
 (a8 (.int .i64) .lss v4 v3).bind fun x15 =>
 j5 x15 (
 (A1 1 v2 (strip v4)).bind fun x17 =>
 (E3 y9 false false 1 x17 H).bind fun r19 =>
 (a8 .str .eql r19.1 (.str [])).bind fun x23 =>
 j5 x23 (
 (a8 (.int .i64) .add (strip v4) (.int .i64 1)).bind fun x24 =>
 some (none,[v0,v1,v2,v3,x24],r19.2)) (
 (id (
 (a8 (.int .i64) .geq v4 (.int .i64 200)).bind fun x27 =>
 j8 x27 (
 (a8 .str .add v1 (.str [102,117,108,108,10])).bind fun x31 =>
 some (0,[x31],r19.2)) (
 (m9 v1).bind fun x34 =>
 (a8 (.int .i64) .gtr x34 (.int .i64 40000)).bind fun x35 =>
 j5 x35 (
 (a8 .str .add (strip v1) (.str [102,117,108,108,10])).bind fun x38 =>
 some (0,[x38],r19.2)) (
 some (1,[v0,(strip v1),(strip r19.1),v2,v3,(strip v4)],r19.2))):Option (Nat × List V × VH))).bind fun r40 =>
 u4 r40.1 [
 j4 1 r40.2.1 fun v41 =>
 some (some 1,[(v41 0)],r40.2.2),
 j4 6 r40.2.1 fun v42 =>
 (cv U8 [(strip (v42 0)),(strip (v42 2))] r40.2.2).bind fun r46 =>
 (a8 .str .add (v42 1) r46.1).bind fun x47 =>
 (a8 (.int .i64) .add (v42 5) (.int .i64 1)).bind fun x49 =>
 some (none,[(v42 0),x47,(v42 3),(v42 4),x49],r46.2)])) (
 some (some 0,[v1],H)):=by kernel_rfl
theorem ai6 (a0:V) (H:VH):cv G7 [a0] H =
 (m9 a0).bind fun x2 =>
 (a8 (.int .i64) .gtr x2 (.int .i64 20000)).bind fun x3 =>
 j5 x3 (
 some ((.str [108,111,110,103,10]),H)) (
 (pc ab1 []).bind fun x5 =>
 (E6 14 x5).bind fun c8 =>
 (stO (.ptr H.length 0) [(c8.getD 0 .b7),(c8.getD 1 .b7),(c8.getD 2 .b7),(c8.getD 3 .b7),(c8.getD 4 .b7),(c8.getD 5 .b7),(c8.getD 6 .b7),(c8.getD 7 .b7),(c8.getD 8 .b7),(c8.getD 9 .b7),(c8.getD 10 .b7),(c8.getD 11 .b7),(c8.getD 12 .b7),(c8.getD 13 .b7)] (H++[[(.sl true []),(.int .i64 0),(.str []),(.str []),(.sl true []),(.sl true []),(.sl true []),(.int .i64 0),(.int .i64 0),(.int .i64 0),(.int .i64 0),(.int .i64 0),(.int .i64 0),(.int .i64 0)]])).bind fun H9 =>
 (pc Y3 [(j3 H9 (strip a0)),(j3 H9 (.str [10]))]).bind fun x12 =>
 (y0 x12).bind fun x13 =>
 (l3 adp [(.ptr H.length 0),(.str []),x12,x13,(.int .i64 0)] H9).bind fun r51 =>
 u4 r51.1 [
 j4 1 r51.2.1 fun v52 =>
 some ((v52 0),r51.2.2),
 j4 1 r51.2.1 fun v55 =>
 some ((v55 0),r51.2.2)]):=(j6 vb _ _ _ rfl).trans (by kernel_rfl)
theorem akP (H:VH):cv ab1 [] H =
 (pc aaL [(j3 H (.int .i64 1767593289)),(j3 H (.int .i64 60))]).bind fun x1 =>
 (n9 x1 0).bind fun x3 =>
 (n9 x1 1).bind fun x4 =>
 (E6 7 (strip x3)).bind fun c7 =>
 some ((.agg [(.sl true []),(.int .i64 0),(.str []),(.str []),(.sl true []),(.sl true []),(.sl true []),(strip (c7.getD 0 .b7)),(strip (c7.getD 1 .b7)),(strip (c7.getD 2 .b7)),(strip (c7.getD 3 .b7)),(strip (c7.getD 4 .b7)),(strip (c7.getD 5 .b7)),(strip (c7.getD 6 .b7))]),H):=(j6 vb _ _ _ rfl).trans (by kernel_rfl)
noncomputable def af1:List V->VH->Option (Option Nat × List V × VH):=w8 (vb.ctx cv l3) (vb.b.D7 63) (vb.y4 63) ⟨⟨[7],[(4,(4,0)),(9,(9,0))],[(4,7),(9,7)]⟩,[(.exit 0,⟨[7],[(4,(4,0)),(9,(9,0))],[(4,7),(9,7)]⟩)]⟩ (w7 Tryz.f63 8)
theorem ajq (v0 v1 v2 v3 v4 v5 v6 v7 v8 v9 v10 v11 v12 v13 v14:V) (H:VH):af1 [v0,v1,v2,v3,v4,v5,v6,v7,v8,v9,v10,v11,v12,v13,v14] H =
 (id (
 (a8 (.int .i64) .leq (strip v8) (.int .i64 2099)).bind fun x53 =>
 j8 x53 (
 (qc P9 [(j3 H (strip v8)),(j3 H (strip v9))]).bind fun x60 =>
 (a8 (.int .i64) .geq v0 x60).bind fun x61 =>
 j5 x61 (
 some (0,[(strip v0),v1,v2,v3,v4,v5,v6,v7,v8,v9,v10,v11,v12,v13,v14],H)) (
 some (1,[(strip v0),v1,v2,v3,v4,v5,v6,v7,v8,v9,v10,v11,v12,v13,v14],H))) (
 some (1,[v0,v1,v2,v3,v4,v5,v6,v7,v8,v9,v10,v11,v12,v13,v14],H)):Option (Nat × List V × VH))).bind fun r64 =>
 u4 r64.1 [
 j4 15 r64.2.1 fun v65 =>
 (qc P9 [(j3 r64.2.2 (strip (v65 8))),(j3 r64.2.2 (strip (v65 9)))]).bind fun x71 =>
 (a8 (.int .i64) .sub (v65 0) x71).bind fun x72 =>
 (a8 (.int .i64) .add (strip (v65 9)) (.int .i64 1)).bind fun x76 =>
 (y3 x76).bind fun y79 =>
 (a8 (.int .i64) .gtr (strip y79) (.int .i64 12)).bind fun x82 =>
 j5 x82 (
 (a8 (.int .i64) .add (strip (v65 8)) (.int .i64 1)).bind fun x85 =>
 (y3 x85).bind fun y88 =>
 some (none,[x72,(v65 1),(v65 2),(v65 3),(v65 4),(v65 5),(v65 6),(v65 7),y88,(.int .i64 1),(v65 10),(v65 11),(v65 12),(v65 13),(v65 14)],r64.2.2)) (
 some (none,[x72,(v65 1),(v65 2),(v65 3),(v65 4),(v65 5),(v65 6),(v65 7),(v65 8),y79,(v65 10),(v65 11),(v65 12),(v65 13),(v65 14)],r64.2.2)),
 j4 15 r64.2.1 fun v91 =>
 some (some 0,[(v91 0),(v91 1),(v91 2),(v91 3),(v91 4),(v91 5),(v91 6),(v91 7),(v91 8),(v91 9),(v91 10),(v91 11),(v91 12),(v91 13),(v91 14)],r64.2.2)]:=by kernel_rfl
theorem amE (a0 a1:V) (H:VH):cv aaL [a0,a1] H =
 (id (
 (qc F4 [(j3 H a0),(j3 H (.int .i64 0)),(j3 H (.int .i64 4102444799))]).bind fun x3 =>
 (C9 .not x3).bind fun x4 =>
 j8 x4 (
 some (0,[(.bool false),(.int .i64 0),(.int .i64 0),(.int .i64 0),(.int .i64 0),(.int .i64 0),(.int .i64 0),(.int .i64 0)],H)) (
 (qc aaO [(j3 H a1)]).bind fun x11 =>
 (C9 .not x11).bind fun x12 =>
 j5 x12 (
 some (0,[(.bool false),(.int .i64 0),(.int .i64 0),(.int .i64 0),(.int .i64 0),(.int .i64 0),(.int .i64 0),(.int .i64 0)],H)) (
 some (1,[(strip a0),(strip a1),(.int .i64 0),(.int .i64 0),(.int .i64 0),(.int .i64 0),(.int .i64 0),(.int .i64 0),(.int .i64 0)],H))):Option (Nat × List V × VH))).bind fun r17 =>
 u4 r17.1 [
 j4 8 r17.2.1 fun v18 =>
 some ((.n8 [(.agg [(v18 1),(v18 2),(v18 3),(v18 4),(v18 5),(v18 6),(v18 7)]),(v18 0)]),r17.2.2),
 j4 9 r17.2.1 fun v19 =>
 (a8 (.int .i64) .mul (v19 1) (.int .i64 60)).bind fun x22 =>
 (a8 (.int .i64) .add (v19 0) x22).bind fun x23 =>
 (a8 (.int .i64) .lss x23 (.int .i64 0)).bind fun x26 =>
 j5 x26 (
 some ((.n8 [(.agg [(.int .i64 0),(.int .i64 0),(.int .i64 0),(.int .i64 0),(.int .i64 0),(.int .i64 0),(.int .i64 0)]),(.bool false)]),r17.2.2)) (
 (a8 (.int .i64) .quo (strip x23) (.int .i64 86400)).bind fun x31 =>
 (a8 (.int .i64) .rem (strip (strip x23)) (.int .i64 86400)).bind fun x33 =>
 (a8 (.int .i64) .quo x33 (.int .i64 3600)).bind fun x37 =>
 (a8 (.int .i64) .quo (strip x33) (.int .i64 60)).bind fun x39 =>
 (a8 (.int .i64) .rem x39 (.int .i64 60)).bind fun x40 =>
 (a8 (.int .i64) .rem (strip (strip x33)) (.int .i64 60)).bind fun x42 =>
 (y3 x37).bind fun y45 =>
 (y3 x40).bind fun y46 =>
 (y3 x42).bind fun y47 =>
 (y3 (strip (v19 1))).bind fun y48 =>
 (l3 af1 [x31,(v19 2),(v19 3),(v19 4),(v19 5),(v19 6),(v19 7),(v19 8),(.int .i64 1970),(.int .i64 1),(.int .i64 0),y45,y46,y47,y48] r17.2.2).bind fun r92 =>
 u4 r92.1 [
 j4 15 r92.2.1 fun v93 =>
 (a8 (.int .i64) .add (v93 0) (.int .i64 1)).bind fun x95 =>
 (y3 x95).bind fun y98 =>
 (qc U1 [(j3 r92.2.2 (.agg [(strip (v93 8)),(strip (v93 9)),(strip y98),(strip (v93 11)),(strip (v93 12)),(strip (v93 13)),(strip (v93 14))]))]).bind fun x100 =>
 (C9 .not x100).bind fun x101 =>
 j5 x101 (
 some ((.n8 [(.agg [(.int .i64 0),(.int .i64 0),(.int .i64 0),(.int .i64 0),(.int .i64 0),(.int .i64 0),(.int .i64 0)]),(.bool false)]),r92.2.2)) (
 some ((.n8 [(.agg [(strip (v93 8)),(strip (v93 9)),(strip y98),(strip (v93 11)),(strip (v93 12)),(strip (v93 13)),(strip (v93 14))]),(.bool true)]),r92.2.2))])]:=(j6 vb _ _ _ rfl).trans (by kernel_rfl)
theorem akF (a0 a1 a2:V) (H:VH):cv F4 [a0,a1,a2] H =
 (a8 (.int .i64) .geq a0 a1).bind fun x3 =>
 j8 x3 (
 (a8 (.int .i64) .leq (strip a0) a2).bind fun x7 =>
 some (x7,H)) (
 some ((.bool false),H)):=(j6 vb _ _ _ rfl).trans (by kernel_rfl)
theorem amB (a0:V) (H:VH):cv aaO [a0] H =
 (qc F4 [(j3 H a0),(j3 H (.int .i64 (-720))),(j3 H (.int .i64 840))]).bind fun x2 =>
 some (x2,H):=(j6 vb _ _ _ rfl).trans (by kernel_rfl)
theorem ami (a0 a1:V) (H:VH):cv P9 [a0,a1] H =
 (id (
 (a8 (.int .i64) .lss a0 (.int .i64 1970)).bind fun x2 =>
 j8 x2 (
 some (0,[(.int .i64 0)],H)) (
 (a8 (.int .i64) .gtr (strip a0) (.int .i64 2099)).bind fun x7 =>
 j5 x7 (
 some (0,[(.int .i64 0)],H)) (
 some (1,[(strip (strip a0)),a1],H))):Option (Nat × List V × VH))).bind fun r10 =>
 u4 r10.1 [
 j4 1 r10.2.1 fun v11 =>
 some ((v11 0),r10.2.2),
 j4 2 r10.2.1 fun v12 =>
 (id (
 (a8 (.int .i64) .eql (v12 1) (.int .i64 1)).bind fun x14 =>
 j5 x14 (
 some (0,[(v12 0),(v12 1),x14],r10.2.2)) (
 (a8 (.int .i64) .eql (v12 1) (.int .i64 3)).bind fun x16 =>
 j5 x16 (
 some (0,[(v12 0),(v12 1),x16],r10.2.2)) (
 (a8 (.int .i64) .eql (v12 1) (.int .i64 5)).bind fun x18 =>
 j5 x18 (
 some (0,[(v12 0),(v12 1),x18],r10.2.2)) (
 (a8 (.int .i64) .eql (v12 1) (.int .i64 7)).bind fun x20 =>
 j5 x20 (
 some (0,[(v12 0),(v12 1),x20],r10.2.2)) (
 (a8 (.int .i64) .eql (v12 1) (.int .i64 8)).bind fun x22 =>
 j5 x22 (
 some (0,[(v12 0),(v12 1),x22],r10.2.2)) (
 (a8 (.int .i64) .eql (v12 1) (.int .i64 10)).bind fun x24 =>
 j5 x24 (
 some (0,[(v12 0),(v12 1),x24],r10.2.2)) (
 (a8 (.int .i64) .eql (v12 1) (.int .i64 12)).bind fun x26 =>
 some (0,[(v12 0),(v12 1),x26],r10.2.2))))))):Option (Nat × List V × VH))).bind fun r28 =>
 u4 r28.1 [
 j4 3 r28.2.1 fun v29 =>
 j5 (v29 2) (
 some ((.int .i64 31),r28.2.2)) (
 (id (
 (a8 (.int .i64) .eql (v29 1) (.int .i64 4)).bind fun x31 =>
 j5 x31 (
 some (0,[(v29 0),(v29 1),x31],r28.2.2)) (
 (a8 (.int .i64) .eql (v29 1) (.int .i64 6)).bind fun x33 =>
 j5 x33 (
 some (0,[(v29 0),(v29 1),x33],r28.2.2)) (
 (a8 (.int .i64) .eql (v29 1) (.int .i64 9)).bind fun x35 =>
 j5 x35 (
 some (0,[(v29 0),(v29 1),x35],r28.2.2)) (
 (a8 (.int .i64) .eql (v29 1) (.int .i64 11)).bind fun x37 =>
 some (0,[(v29 0),(v29 1),x37],r28.2.2)))):Option (Nat × List V × VH))).bind fun r39 =>
 u4 r39.1 [
 j4 3 r39.2.1 fun v40 =>
 j5 (v40 2) (
 some ((.int .i64 30),r39.2.2)) (
 (a8 (.int .i64) .eql (v40 1) (.int .i64 2)).bind fun x42 =>
 j5 x42 (
 (a8 (.int .i64) .rem (v40 0) (.int .i64 4)).bind fun x45 =>
 (a8 (.int .i64) .eql x45 (.int .i64 0)).bind fun x46 =>
 j8 x46 (
 (a8 (.int .i64) .rem (strip (v40 0)) (.int .i64 100)).bind fun x49 =>
 (a8 (.int .i64) .neq x49 (.int .i64 0)).bind fun x50 =>
 j8 x50 (
 some ((.int .i64 29),r39.2.2)) (
 (a8 (.int .i64) .rem (strip (strip (v40 0))) (.int .i64 400)).bind fun x56 =>
 (a8 (.int .i64) .eql x56 (.int .i64 0)).bind fun x57 =>
 j5 x57 (
 some ((.int .i64 29),r39.2.2)) (
 some ((.int .i64 28),r39.2.2)))) (
 (a8 (.int .i64) .rem (strip (v40 0)) (.int .i64 400)).bind fun x64 =>
 (a8 (.int .i64) .eql x64 (.int .i64 0)).bind fun x65 =>
 j5 x65 (
 some ((.int .i64 29),r39.2.2)) (
 some ((.int .i64 28),r39.2.2)))) (
 some ((.int .i64 0),r39.2.2)))])]]:=(j6 vb _ _ _ rfl).trans (by kernel_rfl)
theorem ajf (a0:V) (H:VH):cv U1 [a0] H =
 (E6 7 a0).bind fun c1 =>
 (qc P9 [(j3 H (strip (c1.getD 0 .b7))),(j3 H (strip (c1.getD 1 .b7)))]).bind fun x9 =>
 (qc F4 [(j3 H (strip (c1.getD 2 .b7))),(j3 H (.int .i64 1)),(j3 H x9)]).bind fun x10 =>
 j8 x10 (
 (qc F4 [(j3 H (strip (c1.getD 3 .b7))),(j3 H (.int .i64 0)),(j3 H (.int .i64 23))]).bind fun x14 =>
 j8 x14 (
 (qc F4 [(j3 H (strip (c1.getD 4 .b7))),(j3 H (.int .i64 0)),(j3 H (.int .i64 59))]).bind fun x19 =>
 j8 x19 (
 (qc F4 [(j3 H (strip (c1.getD 5 .b7))),(j3 H (.int .i64 0)),(j3 H (.int .i64 59))]).bind fun x24 =>
 j8 x24 (
 (qc aaO [(j3 H (strip (c1.getD 6 .b7)))]).bind fun x29 =>
 j8 x29 (
 (qc Y5 [(j3 H (.agg [(strip (c1.getD 0 .b7)),(strip (c1.getD 1 .b7)),(strip (c1.getD 2 .b7)),(strip (c1.getD 3 .b7)),(strip (c1.getD 4 .b7)),(strip (c1.getD 5 .b7)),(strip (c1.getD 6 .b7))]))]).bind fun x33 =>
 (qc F4 [(j3 H x33),(j3 H (.int .i64 0)),(j3 H (.int .i64 4102444799))]).bind fun x34 =>
 some (x34,H)) (
 some ((.bool false),H))) (
 some ((.bool false),H))) (
 some ((.bool false),H))) (
 some ((.bool false),H))) (
 some ((.bool false),H)):=(j6 vb _ _ _ rfl).trans (by kernel_rfl)
theorem ag0 (a0:V) (H:VH):cv Y5 [a0] H =
 (E6 7 a0).bind fun c1 =>
 (qc S6 [(j3 H (strip (c1.getD 0 .b7))),(j3 H (strip (c1.getD 1 .b7))),(j3 H (strip (c1.getD 2 .b7)))]).bind fun x9 =>
 (a8 (.int .i64) .mul x9 (.int .i64 86400)).bind fun x10 =>
 (a8 (.int .i64) .mul (strip (c1.getD 3 .b7)) (.int .i64 3600)).bind fun x13 =>
 (a8 (.int .i64) .add x10 x13).bind fun x14 =>
 (a8 (.int .i64) .mul (strip (c1.getD 4 .b7)) (.int .i64 60)).bind fun x17 =>
 (a8 (.int .i64) .add x14 x17).bind fun x18 =>
 (a8 (.int .i64) .add x18 (strip (c1.getD 5 .b7))).bind fun x21 =>
 (a8 (.int .i64) .mul (strip (c1.getD 6 .b7)) (.int .i64 60)).bind fun x24 =>
 (a8 (.int .i64) .sub x21 x24).bind fun x25 =>
 some (x25,H):=(j6 vb _ _ _ rfl).trans (by kernel_rfl)
noncomputable def aaF:List V->VH->Option (Option Nat × List V × VH):=w8 (vb.ctx cv l3) (vb.b.D7 175) (vb.y4 175) ⟨⟨[0,1,7,8,9],[],[]⟩,[(.exit 2,⟨[0,1,7,8],[],[]⟩)]⟩ (w7 Tryz.f175 6)
noncomputable def acO:List V->VH->Option (Option Nat × List V × VH):=w8 (vb.ctx cv l3) (vb.b.D7 175) (vb.y4 175) ⟨⟨[0,1,7,8],[],[]⟩,[(.exit 0,⟨[7],[],[]⟩)]⟩ (w7 Tryz.f175 3)
theorem afw (v0 v1 v2 v3 v4:V) (H:VH):aaF [v0,v1,v2,v3,v4] H =
 (id (
 (a8 (.int .i64) .leq v4 (.int .i64 12)).bind fun x10 =>
 j8 x10 (
 (a8 (.int .i64) .lss v3 v0).bind fun x14 =>
 j8 x14 (
 some (0,[(strip v0),v1,v2,(strip v3),(strip v4)],H)) (
 (a8 (.int .i64) .lss (strip v4) v1).bind fun x20 =>
 j5 x20 (
 some (0,[(strip v0),(strip v1),v2,(strip v3),(strip (strip v4))],H)) (
 some (1,[(strip v0),(strip v1),v2,(strip v3)],H)))) (
 some (1,[v0,v1,v2,v3],H)):Option (Nat × List V × VH))).bind fun r24 =>
 u4 r24.1 [
 j4 5 r24.2.1 fun v25 =>
 (qc P9 [(j3 r24.2.2 (v25 3)),(j3 r24.2.2 (v25 4))]).bind fun x29 =>
 (a8 (.int .i64) .add (v25 2) x29).bind fun x30 =>
 (a8 (.int .i64) .add (strip (v25 4)) (.int .i64 1)).bind fun x33 =>
 some (none,[(v25 0),(v25 1),x30,(strip (v25 3)),x33],r24.2.2),
 j4 4 r24.2.1 fun v35 =>
 some (some 0,[(v35 0),(v35 1),(v35 2),(v35 3)],r24.2.2)]:=by kernel_rfl
theorem afQ (v0 v1 v2 v3:V) (H:VH):acO [v0,v1,v2,v3] H =
 (a8 (.int .i64) .leq v3 v0).bind fun x7 =>
 j5 x7 (
 (l3 aaF [(strip v0),v1,v2,(strip v3),(.int .i64 1)] H).bind fun r36 =>
 u4 r36.1 [
 j4 4 r36.2.1 fun v37 =>
 (a8 (.int .i64) .add (v37 3) (.int .i64 1)).bind fun x39 =>
 some (none,[(v37 0),(v37 1),(v37 2),x39],r36.2.2)]) (
 some (some 0,[v2],H)):=by kernel_rfl
theorem ah4 (a0 a1 a2:V) (H:VH):cv S6 [a0,a1,a2] H =
 (a8 (.int .i64) .sub a2 (.int .i64 1)).bind fun x2 =>
 (l3 acO [a0,a1,x2,(.int .i64 1970)] H).bind fun r41 =>
 u4 r41.1 [
 j4 1 r41.2.1 fun v42 =>
 some ((v42 0),r41.2.2)]:=(j6 vb _ _ _ rfl).trans (by kernel_rfl)
theorem akj (a0 a1:V) (H:VH):cv Y3 [a0,a1] H =
 (pcg R9 H [a0,a1,(.int .i64 0),(.int .i64 (-1))]).bind fun r4 =>
 some (r4.1,r4.2):=(j6 vb _ _ _ rfl).trans (by kernel_rfl)
noncomputable def P3:List V->VH->Option (Option Nat × List V × VH):=w8 (vb.ctx cv l3) (vb.b.D7 64) (vb.y4 64) ⟨⟨[0,1,2,3,9,10],[],[]⟩,[(.exit 0,⟨[0,9,10],[],[]⟩)]⟩ (w7 Tryz.f64 11)
theorem aa7 (v0 v1 v2 v3 v4 v5:V) (H:VH):P3 [v0,v1,v2,v3,v4,v5] H =
 (a8 (.int .i64) .lss v5 v3).bind fun x34 =>
 j5 x34 (
 (qc abu [(j3 H v0),(j3 H v1)]).bind fun x37 =>
 (a8 (.int .i64) .lss x37 (.int .i64 0)).bind fun x40 =>
 j5 x40 (
 some (some 0,[(strip v0),v4,(strip v5)],H)) (
 (a8 (.int .i64) .add (strip x37) v2).bind fun x46 =>
 (w5 (strip v0) none (some x46)).bind fun x47 =>
 (A1 1 (strip v4) (strip v5)).bind fun x48 =>
 (y3 x47).bind fun y50 =>
 (stO x48 [y50] H).bind fun H51 =>
 (m9 (strip v1)).bind fun x55 =>
 (a8 (.int .i64) .add (strip (strip x37)) x55).bind fun x56 =>
 (w5 (strip (strip v0)) (some x56) none).bind fun x57 =>
 (a8 (.int .i64) .add (strip (strip v5)) (.int .i64 1)).bind fun x60 =>
 some (none,[x57,(strip (strip v1)),(strip v2),(strip v3),v4,x60],H51))) (
 some (some 0,[v0,v4,(strip v5)],H)):=by kernel_rfl
theorem ahk (a0 a1 a2 a3:V) (H:VH):cv R9 [a0,a1,a2,a3] H =
 (a8 (.int .i64) .eql a3 (.int .i64 0)).bind fun x2 =>
 j5 x2 (
 some ((.sl true []),H)) (
 (a8 .str .eql a1 (.str [])).bind fun x5 =>
 j5 x5 (
 (pc ah2 [(j3 H a0),(j3 H (strip a3))]).bind fun x8 =>
 some (x8,H)) (
 (id (
 (a8 (.int .i64) .lss (strip a3) (.int .i64 0)).bind fun x11 =>
 j5 x11 (
 (qc abw [(j3 H a0),(j3 H (strip a1))]).bind fun x14 =>
 (a8 (.int .i64) .add x14 (.int .i64 1)).bind fun x15 =>
 some (0,[(strip a0),(strip (strip a1)),a2,x15],H)) (
 some (0,[a0,(strip a1),a2,(strip (strip a3))],H)):Option (Nat × List V × VH))).bind fun r17 =>
 u4 r17.1 [
 j4 4 r17.2.1 fun v18 =>
 (m9 (v18 0)).bind fun x21 =>
 (a8 (.int .i64) .add x21 (.int .i64 1)).bind fun x22 =>
 (aiV (v18 3) x22).bind fun x23 =>
 (ah7 16 x23 x23).bind fun x26 =>
 (a8 (.int .i64) .sub (strip x23) (.int .i64 1)).bind fun x29 =>
 (l3 P3 [(strip (v18 0)),(v18 1),(v18 2),x29,(.z7 r17.2.2.length 0 x26.1 1),(.int .i64 0)] (r17.2.2++[aaq x26.2 [(.str [])]])).bind fun r62 =>
 u4 r62.1 [
 j4 3 r62.2.1 fun v63 =>
 (A1 1 (strip (v63 1)) (v63 2)).bind fun x67 =>
 (y3 (v63 0)).bind fun y69 =>
 (stO x67 [y69] r62.2.2).bind fun H70 =>
 (a8 (.int .i64) .add (strip (v63 2)) (.int .i64 1)).bind fun x73 =>
 (F1 1 (strip (v63 1)) none (some x73)).bind fun x74 =>
 some (x74,H70)]])):=(j6 vb _ _ _ rfl).trans (by kernel_rfl)
noncomputable def aj1:List V->VH->Option (Option Nat × List V × VH):=w8 (vb.ctx cv l3) (vb.b.D7 112) (vb.y4 112) ⟨⟨[0,1,5],[],[]⟩,[(.ret,⟨[4],[],[]⟩)]⟩ (w7 Tryz.f112 6)
theorem ajP (a0 a1:V) (H:VH):cv abw [a0,a1] H =
 (m9 a1).bind fun x2 =>
 (a8 (.int .i64) .eql x2 (.int .i64 0)).bind fun x3 =>
 j5 x3 (
 (qc abl [(j3 H a0)]).bind fun x5 =>
 (a8 (.int .i64) .add x5 (.int .i64 1)).bind fun x6 =>
 some (x6,H)) (
 (m9 (strip a1)).bind fun x9 =>
 (a8 (.int .i64) .eql x9 (.int .i64 1)).bind fun x10 =>
 j5 x10 (
 (l8 (strip (strip a1)) (.int .i64 0)).bind fun x13 =>
 (ajX 1 [a0,x13] fun x14 =>
  some (x14,H))) (
 (l3 aj1 [a0,(strip (strip a1)),(.int .i64 0)] H).bind fun r35 =>
 u4 r35.1 [
 j4 1 r35.2.1 fun v36 =>
 some ((v36 0),r35.2.2)])):=(j6 vb _ _ _ rfl).trans (by kernel_rfl)
theorem aj0 (a0 a1:V) (H:VH):cv abu [a0,a1] H =
 (qc F6 [(j3 H a0),(j3 H a1)]).bind fun x3 =>
 some (x3,H):=(j6 vb _ _ _ rfl).trans (by kernel_rfl)
theorem ai3 (a0 a1:V) (H:VH):cv U8 [a0,a1] H =
 (qc W2 [(j3 H a1),(j3 H (.str [32]))]).bind fun x2 =>
 (n9 x2 0).bind fun x4 =>
 (n9 x2 1).bind fun x5 =>
 (n9 x2 2).bind fun x6 =>
 (C9 .not (strip x6)).bind fun x11 =>
 j5 x11 (
 (cv afC [(strip a0),(strip (strip x4))] H).bind fun r15 =>
 some (r15.1,r15.2)) (
 (a8 .str .eql (strip x4) (.str [115,97,121])).bind fun x18 =>
 j5 x18 (
 (cv agQ [(strip a0),(strip (strip x5))] H).bind fun r23 =>
 some (r23.1,r23.2)) (
 (a8 .str .eql (strip x4) (.str [98,111,120])).bind fun x25 =>
 j5 x25 (
 (P4 a0).bind fun x28 =>
 (K0 x28 0).bind fun x29 =>
 (E3 y9 false false 1 x29 H).bind fun r31 =>
 (pc ame [(j3 r31.2 r31.1),(j3 r31.2 (strip x5))]).bind fun x33 =>
 (n9 x33 0).bind fun x35 =>
 (n9 (acs 0 x33) 1).bind fun x36 =>
 (C9 .not (strip x36)).bind fun x40 =>
 j5 x40 (
 some ((.str [119,104,97,116,10]),r31.2)) (
 (P4 (strip a0)).bind fun x44 =>
 (K0 x44 0).bind fun x45 =>
 (y3 x35).bind fun y47 =>
 (stO x45 [y47] r31.2).bind fun H48 =>
 some ((.str [111,107,10]),H48))) (
 (a8 .str .eql (strip x4) (.str [116,97,107,101])).bind fun x50 =>
 j5 x50 (
 (cv ajc [(strip a0),(strip (strip x5))] H).bind fun r55 =>
 some (r55.1,r55.2)) (
 (a8 .str .eql (strip x4) (.str [100,97,116,101])).bind fun x57 =>
 j5 x57 (
 (pc aje [(j3 H (strip x5))]).bind fun x60 =>
 (n9 x60 0).bind fun x62 =>
 (n9 x60 1).bind fun x63 =>
 (E6 7 (strip x62)).bind fun c66 =>
 (C9 .not (strip x63)).bind fun x69 =>
 j5 x69 (
 some ((.str [119,104,97,116,10]),H)) (
 (P4 a0).bind fun x73 =>
 (K0 x73 7).bind fun x74 =>
 (stO x74 [(strip (c66.getD 0 .b7)),(strip (c66.getD 1 .b7)),(strip (c66.getD 2 .b7)),(strip (c66.getD 3 .b7)),(strip (c66.getD 4 .b7)),(strip (c66.getD 5 .b7)),(strip (c66.getD 6 .b7))] H).bind fun H76 =>
 (qc aia [(j3 H76 (.agg [(strip (c66.getD 0 .b7)),(strip (c66.getD 1 .b7)),(strip (c66.getD 2 .b7)),(strip (c66.getD 3 .b7)),(strip (c66.getD 4 .b7)),(strip (c66.getD 5 .b7)),(strip (c66.getD 6 .b7))]))]).bind fun x78 =>
 (a8 .str .add x78 (.str [10])).bind fun x79 =>
 some (x79,H76))) (
 (qc I4 [(j3 H (strip (strip x4))),(j3 H (strip x5))]).bind fun x83 =>
 (n9 x83 0).bind fun x85 =>
 (n9 x83 1).bind fun x86 =>
 (C9 .not (strip x86)).bind fun x90 =>
 j5 x90 (
 some ((.str [119,104,97,116,10]),H)) (
 (a8 .str .add (.str [61,32]) (strip x85)).bind fun x93 =>
 (a8 .str .add x93 (.str [10])).bind fun x94 =>
 some (x94,H))))))):=(j6 vb _ _ _ rfl).trans (by kernel_rfl)
theorem akz (a0 a1:V) (H:VH):cv I4 [a0,a1] H =
 (a8 .str .eql a0 (.str [97,100,100,114,101,115,115])).bind fun x3 =>
 j5 x3 (
 (pc agE [(j3 H a1)]).bind fun x6 =>
 (n9 x6 0).bind fun x8 =>
 (n9 x6 1).bind fun x9 =>
 (E6 3 (strip x8)).bind fun c12 =>
 (qc afL [(j3 H (.agg [(strip (c12.getD 0 .b7)),(strip (c12.getD 1 .b7)),(strip (c12.getD 2 .b7))]))]).bind fun x15 =>
 some ((.n8 [x15,(strip x9)]),H)) (
 (a8 .str .eql a0 (.str [108,105,115,116])).bind fun x19 =>
 j5 x19 (
 (pc ajo [(j3 H a1)]).bind fun x22 =>
 (n9 x22 0).bind fun x24 =>
 (n9 x22 1).bind fun x25 =>
 (qc ahO [(j3 H (strip (strip (strip x24))))]).bind fun x29 =>
 j8 (strip x25) (
 (a8 .str .neq (strip x29) (.str [])).bind fun x35 =>
 j8 x35 (
 some ((.n8 [x29,(.bool true)]),H)) (
 (y0 (strip (strip (strip x24)))).bind fun x42 =>
 (a8 (.int .i64) .eql x42 (.int .i64 0)).bind fun x43 =>
 some ((.n8 [x29,x43]),H))) (
 some ((.n8 [x29,(.bool false)]),H))) (
 (a8 .str .eql a0 (.str [107,105,110,100])).bind fun x51 =>
 j5 x51 (
 (pc P0 [(j3 H a1)]).bind fun x54 =>
 (n9 x54 0).bind fun x56 =>
 (n9 x54 1).bind fun x57 =>
 (E6 3 (strip x56)).bind fun c60 =>
 (qc N0 [(j3 H (.agg [(strip (c60.getD 0 .b7)),(strip (c60.getD 1 .b7)),(strip (c60.getD 2 .b7))]))]).bind fun x63 =>
 some ((.n8 [x63,(strip x57)]),H)) (
 (a8 .str .eql a0 (.str [110,97,109,101])).bind fun x67 =>
 j5 x67 (
 (qc ahQ [(j3 H a1)]).bind fun x70 =>
 (n9 x70 0).bind fun x72 =>
 (n9 x70 1).bind fun x73 =>
 (qc aie [(j3 H (strip x72))]).bind fun x77 =>
 (n9 x77 0).bind fun x79 =>
 (n9 x77 1).bind fun x80 =>
 j8 (strip x73) (
 some ((.n8 [(strip x79),(strip x80)]),H)) (
 some ((.n8 [(strip x79),(.bool false)]),H))) (
 some ((.n8 [(.str []),(.bool false)]),H))))):=(j6 vb _ _ _ rfl).trans (by kernel_rfl)
theorem aif (a0:V) (H:VH):cv N0 [a0] H =
 (E6 3 a0).bind fun c1 =>
 (qc O8 [(j3 H (.agg [(strip (c1.getD 0 .b7)),(strip (c1.getD 1 .b7)),(strip (c1.getD 2 .b7))]))]).bind fun x4 =>
 (C9 .not x4).bind fun x5 =>
 j5 x5 (
 some ((.str []),H)) (
 (qc Q5 [(j3 H (.agg [(strip (c1.getD 0 .b7)),(strip (c1.getD 1 .b7)),(strip (c1.getD 2 .b7))]))]).bind fun x8 =>
 some (x8,H)):=(j6 vb _ _ _ rfl).trans (by kernel_rfl)
end Go.Proofs.YtmokcpfbeggigaaGreatDoor.Q
