/- What a call of each function comes to. -/
import Derived.Test.YtaapfgpeeghmeaaGreatDoorScriptMailBaseZ
namespace Go.Proofs.YtaapfgpeeghmeaaGreatDoor.Q
open Go Go.AM Go.Proofs
set_option linter.unusedVariables false
set_option maxRecDepth 100000
noncomputable def abS:List V->VH->Option (Option Nat × List V × VH):=D1 (vb.ctx cv l6) (vb.b.G7 4) (vb.C7 4) ⟨⟨[4,10,11],[(3,(3,0))],[(3,3)]⟩,[(.exit 0,⟨[10],[(3,(3,0))],[(3,3)]⟩)]⟩ (D0 Tryz.f4 13)
noncomputable def abH:List V->VH->Option (Option Nat × List V × VH):=D1 (vb.ctx cv l6) (vb.b.G7 4) (vb.C7 4) ⟨⟨[12,13,14],[(3,(3,0))],[(3,3)]⟩,[(.exit 2,⟨[12,13],[],[]⟩)]⟩ (D0 Tryz.f4 19)
theorem ahM (v0 v1 v2 v3 v4 v5:V) (H:VH):abS [v0,v1,v2,v3,v4,v5] H =
 (y3 (strip v0)).bind fun x110 =>
 (b7 (.int .i64) .lss v2 x110).bind fun x111 =>
 j3 x111 (
 (b7 .str .add v1 (.str [115,97,121,32])).bind fun x113 =>
 (y8 1 (strip v0) (strip v2)).bind fun x116 =>
 (y5 l5 false false 1 x116 H).bind fun r118 =>
 (b7 .str .add x113 r118.1).bind fun x119 =>
 (b7 .str .add x119 (.str [10])).bind fun x120 =>
 (b7 (.int .i64) .add (strip (strip v2)) (.int .i64 1)).bind fun x123 =>
 some (none,[v0,x120,x123,v3,v4,v5],r118.2)) (
 some (some 0,[v1,v3,v4,v5],H)):=by kernel_rfl
theorem ahD (v0 v1 v2 v3 v4 v5:V) (H:VH):abH [v0,v1,v2,v3,v4,v5] H =
 (y3 (strip v5)).bind fun x143 =>
 (b7 (.int .i64) .lss v2 x143).bind fun x144 =>
 j3 x144 (
 (b7 .str .add v1 (.str [62,32])).bind fun x146 =>
 (y8 1 (strip v5) (strip v2)).bind fun x150 =>
 (y5 l5 false false 1 x150 H).bind fun r152 =>
 (b7 .str .add x146 r152.1).bind fun x153 =>
 (b7 .str .add x153 (.str [10])).bind fun x154 =>
 (b7 (.int .i64) .add (strip (strip v2)) (.int .i64 1)).bind fun x157 =>
 some (none,[v0,x154,x157,v3,v4,v5],r152.2)) (
 some (some 0,[v0,v1],H)):=by kernel_rfl
theorem ajR (a0:V) (H:VH):cv ab4 [a0] H =
 (y3 (strip a0)).bind fun x2 =>
 (b7 (.int .i64) .gtr x2 (.int .i64 1048576)).bind fun x3 =>
 j3 x3 (
 some ((.bool true),H)) (
 (cv abI [a0] H).bind fun r7 =>
 (C5 3 r7.1).bind fun c10 =>
 (pc Z6 [(j4 r7.2 (.agg [(strip (c10.getD 0 .g8)),(strip (c10.getD 1 .g8)),(strip (c10.getD 2 .g8))]))]).bind fun x12 =>
 (z7 x12 0).bind fun x14 =>
 (z7 x12 1).bind fun x15 =>
 (pc abA [(j4 r7.2 (.agg [(strip (c10.getD 0 .g8)),(strip (c10.getD 1 .g8)),(strip (c10.getD 2 .g8))]))]).bind fun x19 =>
 (z7 x19 0).bind fun x21 =>
 (z7 x19 1).bind fun x22 =>
 (id (
 (qc Y6 [(j4 r7.2 (strip (strip (strip x14)))),(j4 r7.2 (strip (strip (strip x21))))]).bind fun x27 =>
 (C4 .not x27).bind fun x28 =>
 k9 x28 (
 (qc Y6 [(j4 r7.2 (strip (strip (strip x14)))),(j4 r7.2 (strip (strip (strip x21))))]).bind fun x35 =>
 k9 x35 (
 (b7 .bool .eql (strip x15) (strip x22)).bind fun x39 =>
 some (0,[x39],r7.2)) (
 some (0,[(.bool false)],r7.2))) (
 (b7 .bool .neq (strip x15) (strip x22)).bind fun x46 =>
 k9 x46 (
 (qc Y6 [(j4 r7.2 (strip (strip (strip x14)))),(j4 r7.2 (strip (strip (strip x21))))]).bind fun x52 =>
 k9 x52 (
 (b7 .bool .eql (strip (strip x15)) (strip (strip x22))).bind fun x56 =>
 some (0,[x56],r7.2)) (
 some (0,[(.bool false)],r7.2))) (
 (C4 .not (strip (strip x15))).bind fun x62 =>
 j3 x62 (
 (qc Y6 [(j4 r7.2 (strip (strip (strip x14)))),(j4 r7.2 (strip (strip (strip x21))))]).bind fun x66 =>
 k9 x66 (
 (b7 .bool .eql (strip (strip (strip x15))) (strip (strip x22))).bind fun x70 =>
 some (0,[x70],r7.2)) (
 some (0,[(.bool false)],r7.2))) (
 some (1,[(strip (strip x14)),(c10.getD 0 .g8),(c10.getD 1 .g8),(c10.getD 2 .g8)],r7.2)))):Option (Nat × List V × VH))).bind fun r75 =>
 C6 r75.1 [
 l4 1 r75.2.1 fun v76 =>
 some ((v76 0),r75.2.2),
 l4 4 r75.2.1 fun v77 =>
 (qc adQ [(j4 r75.2.2 (.agg [(strip (v77 1)),(strip (v77 2)),(strip (v77 3))]))]).bind fun x79 =>
 (z7 x79 0).bind fun x81 =>
 (z7 x79 1).bind fun x82 =>
 (id (
 (b7 (.int .i64) .geq (strip x81) (.int .i64 5)).bind fun x86 =>
 k9 x86 (
 some (0,[(.bool true)],r75.2.2)) (
 (y3 (strip (v77 3))).bind fun x92 =>
 (b7 (.int .i64) .eql x92 (.int .i64 30)).bind fun x93 =>
 j3 x93 (
 some (0,[(.bool true)],r75.2.2)) (
 some (1,[(v77 0),(v77 1),(v77 2),(v77 3)],r75.2.2))):Option (Nat × List V × VH))).bind fun r96 =>
 C6 r96.1 [
 l4 1 r96.2.1 fun v97 =>
 some ((v97 0),r96.2.2),
 l4 4 r96.2.1 fun v98 =>
 (y8 1 (strip (v98 2)) (.int .i64 0)).bind fun x101 =>
 (y5 l5 false false 1 x101 r96.2.2).bind fun r103 =>
 (b7 .str .add (.str [98,111,120,32]) r103.1).bind fun x104 =>
 (b7 .str .add x104 (.str [10,115,97,121,32,72,69,76,79,32,120,46,111,114,103,10])).bind fun x105 =>
 (l6 abS [(v98 0),x105,(.int .i64 0),(v98 1),(v98 2),(v98 3)] r103.2).bind fun r125 =>
 C6 r125.1 [
 l4 4 r125.2.1 fun v126 =>
 (b7 .str .add (v126 0) (.str [112,97,115,115,10,116,97,107,101,32])).bind fun x128 =>
 (y8 1 (strip (v126 2)) (.int .i64 0)).bind fun x131 =>
 (y5 l5 false false 1 x131 r125.2.2).bind fun r133 =>
 (b7 .str .add x128 r133.1).bind fun x134 =>
 (b7 .str .add x134 (.str [10])).bind fun x135 =>
 (qc Z4 [(j4 r133.2 x135)]).bind fun x136 =>
 (l6 abH [x136,(.str []),(.int .i64 0),(v126 1),(v126 2),(v126 3)] r133.2).bind fun r159 =>
 C6 r159.1 [
 l4 2 r159.2.1 fun v160 =>
 (b7 .str .add (v160 1) (.str [101,110,100,10])).bind fun x162 =>
 (A3 (v160 0)).bind fun x165 =>
 (A3 x162).bind fun x167 =>
 (b7 (.int .i64) .gtr x165 x167).bind fun x168 =>
 k9 x168 (
 (A3 (strip (strip (v160 0)))).bind fun x172 =>
 (A3 (strip x162)).bind fun x174 =>
 (b7 (.int .i64) .sub x172 x174).bind fun x175 =>
 (C9 (strip (v160 0)) (some x175) none).bind fun x176 =>
 (b7 .str .eql x176 (strip (strip x162))).bind fun x178 =>
 some (x178,r159.2.2)) (
 some ((.bool false),r159.2.2))]]]]):=(g9 vb _ _ _ rfl).trans (by kernel_rfl)
theorem ai7 (a0:V) (H:VH):cv abI [a0] H =
 (cv acN [a0] H).bind fun r3 =>
 (cv acK [(strip (strip r3.1))] r3.2).bind fun r8 =>
 (cv ab5 [(strip r3.1),(strip r8.1)] r8.2).bind fun r10 =>
 (C5 3 r10.1).bind fun c12 =>
 some ((.agg [(c12.getD 0 .g8),(c12.getD 1 .g8),(c12.getD 2 .g8)]),r10.2):=(g9 vb _ _ _ rfl).trans (by kernel_rfl)
theorem aqj (a0:V) (H:VH):cv acN [a0] H =
 (id (
 (y3 (strip a0)).bind fun x2 =>
 (b7 (.int .i64) .gtr x2 (.int .i64 2000)).bind fun x3 =>
 j3 x3 (
 (abl 1 (strip a0) none (some (.int .i64 2000))).bind fun x5 =>
 some (0,[x5],H)) (
 some (0,[a0],H)):Option (Nat × List V × VH))).bind fun r7 =>
 C6 r7.1 [
 l4 1 r7.2.1 fun v8 =>
 (y7 (v8 0)).bind fun y11 =>
 some ((.ptr r7.2.2.length 0),(r7.2.2++[[y11,(.int .i64 0)]]))]:=(g9 vb _ _ _ rfl).trans (by kernel_rfl)
noncomputable def afx:List V->VH->Option (Option Nat × List V × VH):=D1 (vb.ctx cv l6) (vb.b.G7 28) (vb.C7 28) ⟨⟨[0,4],[(2,(2,0)),(3,(3,0))],[(2,3),(3,3)]⟩,[(.exit 0,⟨[0],[(2,(2,0)),(3,(3,0))],[(2,3),(3,3)]⟩)]⟩ (D0 Tryz.f28 3)
noncomputable def afB:List V->VH->Option (Option Nat × List V × VH):=D1 (vb.ctx cv l6) (vb.b.G7 28) (vb.C7 28) ⟨⟨[0,5],[(2,(2,0)),(3,(3,0))],[(2,3),(3,3)]⟩,[(.exit 2,⟨[],[(2,(2,0)),(3,(3,0))],[(2,3),(3,3)]⟩)]⟩ (D0 Tryz.f28 7)
theorem aiK (v0 v1 v2 v3 v4 v5 v6 v7:V) (H:VH):afx [v0,v1,v2,v3,v4,v5,v6,v7] H =
 (b7 (.int .i64) .gtr v1 (.int .i64 0)).bind fun x21 =>
 j3 x21 (
 (cv N7 [(strip v0),(.sl false (n8 [[(.str [98,111,98,64,121,46,111,114,103])],[(.str [99,121,64,120,46,111,114,103])],[(.str [66,111,98,64,121,46,111,114,103])]]))] H).bind fun r27 =>
 (y7 r27.1).bind fun y29 =>
 (S6 v6).bind fun s31 =>
 (F8 false 1 16 s31 (.sl true [[y29]])).bind fun x30 =>
 (y7 x30).bind fun y34 =>
 (b7 (.int .i64) .sub (strip v1) (.int .i64 1)).bind fun x36 =>
 some (none,[(strip v0),x36,v2,v3,v4,v5,y34,v7],r27.2)) (
 some (some 0,[v0,v2,v3,v4,v5,v6,v7],H)):=by kernel_rfl
theorem aiH (v0 v1 v2 v3 v4 v5 v6 v7:V) (H:VH):afB [v0,v1,v2,v3,v4,v5,v6,v7] H =
 (b7 (.int .i64) .gtr v1 (.int .i64 0)).bind fun x46 =>
 j3 x46 (
 (cv N7 [(strip v0),(.sl false (n8 [[(.str [83,117,98,106,101,99,116,58,32,120])],[(.str [])],[(.str [116,101,120,116])],[(.str [46])],[(.str [46,97])],[(.str [82,101,99,101,105,118,101,100,58,32,98,121,32,104])]]))] H).bind fun r52 =>
 (y7 r52.1).bind fun y54 =>
 (S6 v7).bind fun s56 =>
 (F8 false 1 16 s56 (.sl true [[y54]])).bind fun x55 =>
 (y7 x55).bind fun y59 =>
 (b7 (.int .i64) .sub (strip v1) (.int .i64 1)).bind fun x61 =>
 some (none,[(strip v0),x61,v2,v3,v4,v5,v6,y59],r52.2)) (
 some (some 0,[v2,v3,v4,v5,v6,v7],H)):=by kernel_rfl
theorem akX (a0:V) (H:VH):cv acK [a0] H =
 (cv N7 [(strip a0),(.sl false (n8 [[(.str [97,110,110,64,120,46,111,114,103])],[(.str [])],[(.str [98,46,99,64,100,46,101])]]))] H).bind fun r4 =>
 (cv N7 [(strip (strip a0)),(.sl false (n8 [[(.str [98,111,98,64,121,46,111,114,103])],[(.str [97,110,110,64,120,46,111,114,103])]]))] r4.2).bind fun r8 =>
 (y7 r8.1).bind fun y10 =>
 (y7 r4.1).bind fun y13 =>
 (cv N4 [(strip (strip (strip a0))),(.int .i64 3)] r8.2).bind fun r18 =>
 (l6 afx [(strip (strip (strip a0))),r18.1,(.str []),(.sl true []),(.sl true []),y13,(.sl true [[y10]]),(.sl true [])] r18.2).bind fun r38 =>
 C6 r38.1 [
 l4 7 r38.2.1 fun v39 =>
 (cv abv [(strip (v39 0)),(.sl false (n8 [[(.int .i64 2)],[(.int .i64 3)],[(.int .i64 1)],[(.int .i64 0)]]))] r38.2.2).bind fun r43 =>
 (l6 afB [(strip (v39 0)),r43.1,(v39 1),(v39 2),(v39 3),(v39 4),(v39 5),(v39 6)] r43.2).bind fun r63 =>
 C6 r63.1 [
 l4 6 r63.2.1 fun v64 =>
 some ((.agg [(v64 3),(v64 4),(v64 5)]),r63.2.2)]]:=(g9 vb _ _ _ rfl).trans (by kernel_rfl)
theorem aof (a0 a1:V) (H:VH):cv N7 [a0,a1] H =
 (y3 (strip a1)).bind fun x4 =>
 (cv N4 [(strip a0),(strip x4)] H).bind fun r6 =>
 (y8 1 (strip a1) r6.1).bind fun x7 =>
 (y5 l5 false false 1 x7 r6.2).bind fun r9 =>
 some (r9.1,r9.2):=(g9 vb _ _ _ rfl).trans (by kernel_rfl)
theorem amn (a0 a1:V) (H:VH):cv N4 [a0,a1] H =
 (B9 (strip a0)).bind fun x3 =>
 (y2 x3 1).bind fun x4 =>
 (y5 l5 false false 1 x4 H).bind fun r6 =>
 (b7 (.int .i64) .add r6.1 (.int .i64 1)).bind fun x7 =>
 (B9 a0).bind fun x8 =>
 (y2 x8 1).bind fun x9 =>
 (y7 x7).bind fun y11 =>
 (E1 x9 [y11] r6.2).bind fun H12 =>
 (id (
 (b7 (.int .i64) .lss a1 (.int .i64 1)).bind fun x14 =>
 k9 x14 (
 some (0,[(.int .i64 0)],H12)) (
 (B9 (strip (strip a0))).bind fun x19 =>
 (y2 x19 0).bind fun x20 =>
 (y5 l5 false false 1 x20 H12).bind fun r22 =>
 (y3 r22.1).bind fun x23 =>
 (b7 (.int .i64) .eql x23 (.int .i64 0)).bind fun x24 =>
 j3 x24 (
 some (0,[(.int .i64 0)],r22.2)) (
 some (1,[(strip (strip (strip a0))),(strip a1)],r22.2))):Option (Nat × List V × VH))).bind fun r27 =>
 C6 r27.1 [
 l4 1 r27.2.1 fun v28 =>
 some ((v28 0),r27.2.2),
 l4 2 r27.2.1 fun v29 =>
 (B9 (v29 0)).bind fun x31 =>
 (y2 x31 1).bind fun x32 =>
 (y5 l5 false false 1 x32 r27.2.2).bind fun r34 =>
 (b7 (.int .i64) .sub r34.1 (.int .i64 1)).bind fun x35 =>
 (B9 (strip (v29 0))).bind fun x39 =>
 (y2 x39 0).bind fun x40 =>
 (y5 l5 false false 1 x40 r34.2).bind fun r42 =>
 (y3 r42.1).bind fun x43 =>
 (b7 (.int .i64) .lss x35 x43).bind fun x44 =>
 j3 x44 (
 (B9 (strip (strip (v29 0)))).bind fun x46 =>
 (y2 x46 0).bind fun x47 =>
 (y5 l5 false false 1 x47 r42.2).bind fun r49 =>
 (y8 1 r49.1 (strip x35)).bind fun x51 =>
 (y5 l5 false false 1 x51 r49.2).bind fun r53 =>
 (aaX .i64 r53.1).bind fun x54 =>
 (b7 (.int .i64) .rem x54 (v29 1)).bind fun x56 =>
 some (x56,r53.2)) (
 (B9 (strip (strip (v29 0)))).bind fun x59 =>
 (y2 x59 0).bind fun x60 =>
 (y5 l5 false false 1 x60 r42.2).bind fun r62 =>
 (B9 (strip (strip (strip (v29 0))))).bind fun x65 =>
 (y2 x65 0).bind fun x66 =>
 (y5 l5 false false 1 x66 r62.2).bind fun r68 =>
 (y3 r68.1).bind fun x69 =>
 (b7 (.int .i64) .rem (strip x35) x69).bind fun x70 =>
 (y8 1 r62.1 x70).bind fun x71 =>
 (y5 l5 false false 1 x71 r68.2).bind fun r73 =>
 (aaX .i64 r73.1).bind fun x74 =>
 (b7 (.int .i64) .mul x74 (.int .i64 131)).bind fun x75 =>
 (B9 (strip (strip (strip (strip (v29 0)))))).bind fun x77 =>
 (y2 x77 0).bind fun x78 =>
 (y5 l5 false false 1 x78 r73.2).bind fun r80 =>
 (b7 (.int .i64) .mul (strip (strip x35)) (.int .i64 7)).bind fun x82 =>
 (b7 (.int .i64) .add x82 (.int .i64 3)).bind fun x83 =>
 (B9 (strip (strip (strip (strip (strip (v29 0))))))).bind fun x85 =>
 (y2 x85 0).bind fun x86 =>
 (y5 l5 false false 1 x86 r80.2).bind fun r88 =>
 (y3 r88.1).bind fun x89 =>
 (b7 (.int .i64) .rem x83 x89).bind fun x90 =>
 (y8 1 r80.1 x90).bind fun x91 =>
 (y5 l5 false false 1 x91 r88.2).bind fun r93 =>
 (aaX .i64 r93.1).bind fun x94 =>
 (b7 (.int .i64) .mul x94 (.int .i64 1117)).bind fun x95 =>
 (b7 (.int .i64) .add x75 x95).bind fun x96 =>
 (b7 (.int .i64) .mul (strip (strip (strip x35))) (.int .i64 29)).bind fun x98 =>
 (b7 (.int .i64) .add x96 x98).bind fun x99 =>
 (B9 (strip (strip (strip (strip (strip (strip (v29 0)))))))).bind fun x102 =>
 (y2 x102 0).bind fun x103 =>
 (y5 l5 false false 1 x103 r93.2).bind fun r105 =>
 (y3 r105.1).bind fun x106 =>
 (b7 (.int .i64) .quo (strip (strip (strip (strip x35)))) x106).bind fun x107 =>
 (b7 (.int .i64) .mul x107 (.int .i64 53)).bind fun x108 =>
 (b7 (.int .i64) .add x99 x108).bind fun x109 =>
 (b7 (.int .i64) .quo (strip x109) (.int .i64 64)).bind fun x113 =>
 (b7 (.int .i64) .xor x109 x113).bind fun x114 =>
 (b7 (.int .i64) .rem x114 (v29 1)).bind fun x118 =>
 some (x118,r105.2))]:=(g9 vb _ _ _ rfl).trans (by kernel_rfl)
theorem amR (a0 a1:V) (H:VH):cv abv [a0,a1] H =
 (y3 (strip a1)).bind fun x4 =>
 (cv N4 [(strip a0),(strip x4)] H).bind fun r6 =>
 (y8 1 (strip a1) r6.1).bind fun x7 =>
 (y5 l5 false false 1 x7 r6.2).bind fun r9 =>
 some (r9.1,r9.2):=(g9 vb _ _ _ rfl).trans (by kernel_rfl)
theorem akc (a0 a1:V) (H:VH):cv ab5 [a0,a1] H =
 (C5 3 a1).bind fun c1 =>
 (pc afh [(j4 H (.agg [(strip (c1.getD 0 .g8)),(strip (c1.getD 1 .g8)),(strip (c1.getD 2 .g8))]))]).bind fun x4 =>
 (C5 3 x4).bind fun c7 =>
 (cv N4 [(strip a0),(.int .i64 20)] H).bind fun r10 =>
 (b7 (.int .i64) .eql r10.1 (.int .i64 0)).bind fun x11 =>
 j3 x11 (
 (cv N7 [(strip (strip a0)),(.sl false (n8 [[(.str [120])],[(.str [97,64,66])],[(.str [60,62])]]))] r10.2).bind fun r16 =>
 (y7 r16.1).bind fun y19 =>
 some ((.agg [y19,(c7.getD 1 .g8),(c7.getD 2 .g8)]),r16.2)) (
 (b7 (.int .i64) .eql r10.1 (.int .i64 1)).bind fun x22 =>
 j3 x22 (
 some ((.agg [(c7.getD 0 .g8),(.sl true []),(c7.getD 2 .g8)]),r10.2)) (
 (b7 (.int .i64) .eql r10.1 (.int .i64 2)).bind fun x29 =>
 j3 x29 (
 (S6 (c7.getD 2 .g8)).bind fun s35 =>
 (F8 false 1 16 s35 (.sl true [[(.str [10])]])).bind fun x34 =>
 (y7 x34).bind fun y38 =>
 some ((.agg [(c7.getD 0 .g8),(c7.getD 1 .g8),y38]),r10.2)) (
 some ((.agg [(c7.getD 0 .g8),(c7.getD 1 .g8),(c7.getD 2 .g8)]),r10.2)))):=(g9 vb _ _ _ rfl).trans (by kernel_rfl)
theorem apt (a0:V) (H:VH):cv afh [a0] H =
 (C5 3 a0).bind fun c1 =>
 (F8 false 1 16 [] (c1.getD 1 .g8)).bind fun x8 =>
 (F8 false 1 16 [] (c1.getD 2 .g8)).bind fun x12 =>
 (y7 (strip (c1.getD 0 .g8))).bind fun y14 =>
 (y7 x8).bind fun y15 =>
 (y7 x12).bind fun y16 =>
 some ((.agg [y14,y15,y16]),H):=(g9 vb _ _ _ rfl).trans (by kernel_rfl)
noncomputable def agQ:List V->VH->Option (Option Nat × List V × VH):=D1 (vb.ctx cv l6) (vb.b.G7 10) (vb.C7 10) ⟨⟨[4,18,19,20],[(1,(1,0))],[(1,3)]⟩,[(.exit 0,⟨[4],[(1,(1,0))],[(1,3)]⟩)]⟩ (D0 Tryz.f10 5)
noncomputable def agt:List V->VH->Option (Option Nat × List V × VH):=D1 (vb.ctx cv l6) (vb.b.G7 10) (vb.C7 10) ⟨⟨[4,35,36,37],[],[]⟩,[(.exit 2,⟨[4],[],[]⟩)]⟩ (D0 Tryz.f10 11)
theorem aj6 (v0 v1 v2 v3 v4 v5 v6:V) (H:VH):agQ [v0,v1,v2,v3,v4,v5,v6] H =
 (b7 (.int .i64) .lss v3 v2).bind fun x20 =>
 j3 x20 (
 (y8 1 v1 v3).bind fun x21 =>
 (y5 l5 false false 1 x21 H).bind fun r23 =>
 (b7 .str .add (.str [82,67,80,84,32,84,79,58,60]) r23.1).bind fun x27 =>
 (b7 .str .add x27 (.str [62])).bind fun x28 =>
 (y7 x28).bind fun y30 =>
 (S6 v0).bind fun s32 =>
 (F8 false 1 16 s32 (.sl true [[y30]])).bind fun x31 =>
 (b7 (.int .i64) .add v3 (.int .i64 1)).bind fun x34 =>
 some (none,[x31,v1,v2,x34,v4,v5,v6],r23.2)) (
 some (some 0,[v0,v4,v5,v6],H)):=by kernel_rfl
theorem aiZ (v0 v1 v2 v3:V) (H:VH):agt [v0,v1,v2,v3] H =
 (b7 (.int .i64) .lss v3 v2).bind fun x47 =>
 j3 x47 (
 (y8 1 v1 v3).bind fun x48 =>
 (y5 l5 false false 1 x48 H).bind fun r50 =>
 (qc afr [(j4 r50.2 r50.1)]).bind fun x54 =>
 (y7 x54).bind fun y56 =>
 (S6 v0).bind fun s58 =>
 (F8 false 1 16 s58 (.sl true [[y56]])).bind fun x57 =>
 (b7 (.int .i64) .add v3 (.int .i64 1)).bind fun x60 =>
 some (none,[x57,v1,v2,x60],r50.2)) (
 some (some 0,[v0],H)):=by kernel_rfl
theorem anf (a0:V) (H:VH):cv Z6 [a0] H =
 (C5 3 a0).bind fun c1 =>
 (qc O9 [(j4 H (.agg [(strip (c1.getD 0 .g8)),(strip (c1.getD 1 .g8)),(strip (c1.getD 2 .g8))]))]).bind fun x5 =>
 (C4 .not x5).bind fun x6 =>
 j3 x6 (
 some ((.n9 [(.sl true []),(.bool false)]),H)) (
 (b7 .str .add (.str [77,65,73,76,32,70,82,79,77,58,60]) (strip (c1.getD 0 .g8))).bind fun x11 =>
 (b7 .str .add x11 (.str [62])).bind fun x12 =>
 (y7 x12).bind fun y14 =>
 (y3 (strip (c1.getD 1 .g8))).bind fun x18 =>
 (l6 agQ [(.sl true [[y14]]),(strip (c1.getD 1 .g8)),x18,(.int .i64 0),(c1.getD 0 .g8),(c1.getD 1 .g8),(c1.getD 2 .g8)] H).bind fun r36 =>
 C6 r36.1 [
 l4 4 r36.2.1 fun v37 =>
 (S6 (v37 0)).bind fun s41 =>
 (F8 false 1 16 s41 (.sl true [[(.str [68,65,84,65])]])).bind fun x40 =>
 (y3 (strip (v37 3))).bind fun x45 =>
 (l6 agt [x40,(strip (v37 3)),x45,(.int .i64 0)] r36.2.2).bind fun r62 =>
 C6 r62.1 [
 l4 1 r62.2.1 fun v63 =>
 (qc C0 [(j4 r62.2.2 (strip (v63 0))),(j4 r62.2.2 (.fn aaN []))]).bind fun x65 =>
 j3 x65 (
 some ((.n9 [(.sl true []),(.bool false)]),r62.2.2)) (
 (S6 (v63 0)).bind fun s71 =>
 (F8 false 1 16 s71 (.sl true [[(.str [46])]])).bind fun x70 =>
 some ((.n9 [x70,(.bool true)]),r62.2.2))]]):=(g9 vb _ _ _ rfl).trans (by kernel_rfl)
theorem ank (a0:V) (H:VH):cv O9 [a0] H =
 (C5 3 a0).bind fun c1 =>
 (qc abg [(j4 H (.agg [(strip (c1.getD 0 .g8)),(strip (c1.getD 1 .g8)),(strip (c1.getD 2 .g8))])),(j4 H (.int .i64 1)),(j4 H (.int .i64 30))]).bind fun x4 =>
 some (x4,H):=(g9 vb _ _ _ rfl).trans (by kernel_rfl)
theorem alf (a0 a1 a2:V) (H:VH):cv abg [a0,a1,a2] H =
 (C5 3 a0).bind fun c1 =>
 (qc adK [(j4 H (strip (c1.getD 0 .g8)))]).bind fun x5 =>
 k9 x5 (
 (y3 (strip (c1.getD 1 .g8))).bind fun x9 =>
 (b7 (.int .i64) .geq x9 a1).bind fun x11 =>
 k9 x11 (
 (y3 (strip (c1.getD 1 .g8))).bind fun x16 =>
 (b7 (.int .i64) .leq x16 (.int .i64 10)).bind fun x17 =>
 k9 x17 (
 (qc C0 [(j4 H (strip (c1.getD 1 .g8))),(j4 H (.fn aam []))]).bind fun x22 =>
 (C4 .not x22).bind fun x23 =>
 k9 x23 (
 (qc aez [(j4 H (strip (c1.getD 2 .g8))),(j4 H a2)]).bind fun x29 =>
 some (x29,H)) (
 some ((.bool false),H))) (
 some ((.bool false),H))) (
 some ((.bool false),H))) (
 some ((.bool false),H)):=(g9 vb _ _ _ rfl).trans (by kernel_rfl)
theorem aqp (a0:V) (H:VH):cv adK [a0] H =
 (b7 .str .eql a0 (.str [])).bind fun x2 =>
 k9 x2 (
 some ((.bool true),H)) (
 (qc aaw [(j4 H (strip a0))]).bind fun x7 =>
 some (x7,H)):=(g9 vb _ _ _ rfl).trans (by kernel_rfl)
theorem aqY (a0:V) (H:VH):cv aaw [a0] H =
 (qc aau [(j4 H a0),(j4 H (.str [64]))]).bind fun x2 =>
 (z7 x2 0).bind fun x4 =>
 (z7 x2 1).bind fun x5 =>
 (z7 x2 2).bind fun x6 =>
 k9 (strip x6) (
 (qc afc [(j4 H (strip x4))]).bind fun x13 =>
 k9 x13 (
 (qc V4 [(j4 H (strip x5))]).bind fun x17 =>
 some (x17,H)) (
 some ((.bool false),H))) (
 some ((.bool false),H)):=(g9 vb _ _ _ rfl).trans (by kernel_rfl)
theorem arq (a0 a1:V) (H:VH):cv aau [a0,a1] H =
 (qc X3 [(j4 H a0),(j4 H a1)]).bind fun x5 =>
 (z7 x5 0).bind fun x6 =>
 (z7 x5 1).bind fun x7 =>
 (z7 x5 2).bind fun x8 =>
 some ((.n9 [(strip x6),(strip x7),(strip x8)]),H):=(g9 vb _ _ _ rfl).trans (by kernel_rfl)
theorem agm (a0 a1:V) (H:VH):cv X3 [a0,a1] H =
 (qc N3 [(j4 H a0),(j4 H a1)]).bind fun x5 =>
 (b7 (.int .i64) .geq x5 (.int .i64 0)).bind fun x8 =>
 j3 x8 (
 (C9 (strip a0) none (some (strip x5))).bind fun x11 =>
 (A3 (strip a1)).bind fun x15 =>
 (b7 (.int .i64) .add (strip (strip x5)) x15).bind fun x16 =>
 (C9 (strip (strip a0)) (some x16) none).bind fun x17 =>
 some ((.n9 [x11,x17,(.bool true)]),H)) (
 some ((.n9 [(strip a0),(.str []),(.bool false)]),H)):=(g9 vb _ _ _ rfl).trans (by kernel_rfl)
noncomputable def afk:List V->VH->Option (Option Nat × List V × VH):=D1 (vb.ctx cv l6) (vb.b.G7 106) (vb.C7 106) ⟨⟨[0,1,5,6,7,8,9,10],[],[]⟩,[(.exit 1,⟨[],[],[]⟩),(.ret,⟨[4],[],[]⟩)]⟩ (D0 Tryz.f106 15)
theorem afv (a0 a1:V) (H:VH):cv N3 [a0,a1] H =
 (A3 a1).bind fun x2 =>
 (id (
 (b7 (.int .i64) .eql x2 (.int .i64 0)).bind fun x5 =>
 k9 x5 (
 some (0,[(.int .i64 0)],H)) (
 (b7 .str .eql (strip a1) a0).bind fun x12 =>
 j3 x12 (
 some (0,[(.int .i64 0)],H)) (
 (b7 (.int .i64) .eql (strip x2) (.int .i64 1)).bind fun x17 =>
 j3 x17 (
 (A9 (strip (strip a1)) (.int .i64 0)).bind fun x21 =>
 (qc P6 [(j4 H (strip a0)),(j4 H x21)]).bind fun x22 =>
 some (0,[x22],H)) (
 (A3 (strip a0)).bind fun x26 =>
 (b7 (.int .i64) .geq (strip (strip x2)) x26).bind fun x27 =>
 j3 x27 (
 some (0,[(.int .i64 (-1))],H)) (
 (y5 l5 false false 1 (.gp 1 0) H).bind fun r32 =>
 (b7 (.int .i64) .leq (strip (strip (strip x2))) r32.1).bind fun x33 =>
 k9 x33 (
 (A3 (strip (strip a0))).bind fun x36 =>
 (b7 (.int .i64) .leq x36 (.int .i64 64)).bind fun x37 =>
 j3 x37 (
 (anL 2 [(strip (strip (strip a0))),(strip (strip a1))] fun x42 =>
  some (0,[x42],r32.2))) (
 some (1,[(strip (strip (strip a0))),(strip (strip a1)),(strip (strip (strip (strip x2))))],r32.2))) (
 some (1,[(strip (strip a0)),(strip (strip a1)),(strip (strip (strip (strip x2))))],r32.2)))))):Option (Nat × List V × VH))).bind fun r46 =>
 C6 r46.1 [
 l4 1 r46.2.1 fun v47 =>
 some ((v47 0),r46.2.2),
 l4 3 r46.2.1 fun v48 =>
 (A9 (v48 1) (.int .i64 0)).bind fun x50 =>
 (A9 (strip (v48 1)) (.int .i64 1)).bind fun x53 =>
 (A3 (v48 0)).bind fun x57 =>
 (b7 (.int .i64) .sub x57 (v48 2)).bind fun x59 =>
 (b7 (.int .i64) .add x59 (.int .i64 1)).bind fun x60 =>
 (l6 afk [(strip (v48 0)),(strip (strip (v48 1))),(strip (v48 2)),x50,x53,(.int .i64 0),x60,(.int .i64 0)] r46.2.2).bind fun r208 =>
 C6 r208.1 [
 l4 0 r208.2.1 fun v209 =>
 some ((.int .i64 (-1)),r208.2.2),
 l4 1 r208.2.1 fun v211 =>
 some ((v211 0),r208.2.2)]]:=(g9 vb _ _ _ rfl).trans (by kernel_rfl)
theorem ad8 (a0 a1:V) (H:VH):cv P6 [a0,a1] H =
 (anL 0 [a0,a1] fun x3 =>
  some (x3,H)):=(g9 vb _ _ _ rfl).trans (by kernel_rfl)
theorem aqk (a0:V) (H:VH):cv afc [a0] H =
 (A3 a0).bind fun x2 =>
 (b7 (.int .i64) .leq x2 (.int .i64 30)).bind fun x3 =>
 k9 x3 (
 (pc V3 [(j4 H (strip a0)),(j4 H (.str [46]))]).bind fun x6 =>
 (qc C0 [(j4 H x6),(j4 H (.fn abr []))]).bind fun x7 =>
 (C4 .not x7).bind fun x8 =>
 some (x8,H)) (
 some ((.bool false),H)):=(g9 vb _ _ _ rfl).trans (by kernel_rfl)
theorem aoA (a0 a1:V) (H:VH):cv V3 [a0,a1] H =
 (pcg aaM H [a0,a1,(.int .i64 0),(.int .i64 (-1))]).bind fun r4 =>
 some (r4.1,r4.2):=(g9 vb _ _ _ rfl).trans (by kernel_rfl)
noncomputable def aai:List V->VH->Option (Option Nat × List V × VH):=D1 (vb.ctx cv l6) (vb.b.G7 47) (vb.C7 47) ⟨⟨[0,1,2,3,9,10],[],[]⟩,[(.exit 0,⟨[0,9,10],[],[]⟩)]⟩ (D0 Tryz.f47 11)
theorem adM (v0 v1 v2 v3 v4 v5:V) (H:VH):aai [v0,v1,v2,v3,v4,v5] H =
 (b7 (.int .i64) .lss v5 v3).bind fun x34 =>
 j3 x34 (
 (qc aew [(j4 H v0),(j4 H v1)]).bind fun x37 =>
 (b7 (.int .i64) .lss x37 (.int .i64 0)).bind fun x40 =>
 j3 x40 (
 some (some 0,[(strip v0),v4,(strip v5)],H)) (
 (b7 (.int .i64) .add (strip x37) v2).bind fun x46 =>
 (C9 (strip v0) none (some x46)).bind fun x47 =>
 (y8 1 (strip v4) (strip v5)).bind fun x48 =>
 (y7 x47).bind fun y50 =>
 (E1 x48 [y50] H).bind fun H51 =>
 (A3 (strip v1)).bind fun x55 =>
 (b7 (.int .i64) .add (strip (strip x37)) x55).bind fun x56 =>
 (C9 (strip (strip v0)) (some x56) none).bind fun x57 =>
 (b7 (.int .i64) .add (strip (strip v5)) (.int .i64 1)).bind fun x60 =>
 some (none,[x57,(strip (strip v1)),(strip v2),(strip v3),v4,x60],H51))) (
 some (some 0,[v0,v4,(strip v5)],H)):=by kernel_rfl
theorem ak2 (a0 a1 a2 a3:V) (H:VH):cv aaM [a0,a1,a2,a3] H =
 (b7 (.int .i64) .eql a3 (.int .i64 0)).bind fun x2 =>
 j3 x2 (
 some ((.sl true []),H)) (
 (b7 .str .eql a1 (.str [])).bind fun x5 =>
 j3 x5 (
 (pc alg [(j4 H a0),(j4 H (strip a3))]).bind fun x8 =>
 some (x8,H)) (
 (id (
 (b7 (.int .i64) .lss (strip a3) (.int .i64 0)).bind fun x11 =>
 j3 x11 (
 (qc aeB [(j4 H a0),(j4 H (strip a1))]).bind fun x14 =>
 (b7 (.int .i64) .add x14 (.int .i64 1)).bind fun x15 =>
 some (0,[(strip a0),(strip (strip a1)),a2,x15],H)) (
 some (0,[a0,(strip a1),a2,(strip (strip a3))],H)):Option (Nat × List V × VH))).bind fun r17 =>
 C6 r17.1 [
 l4 4 r17.2.1 fun v18 =>
 (A3 (v18 0)).bind fun x21 =>
 (b7 (.int .i64) .add x21 (.int .i64 1)).bind fun x22 =>
 (amw (v18 3) x22).bind fun x23 =>
 (alz 16 x23 x23).bind fun x26 =>
 (b7 (.int .i64) .sub (strip x23) (.int .i64 1)).bind fun x29 =>
 (l6 aai [(strip (v18 0)),(v18 1),(v18 2),x29,(.y1 r17.2.2.length 0 x26.1 1),(.int .i64 0)] (r17.2.2++[acZ x26.2 [(.str [])]])).bind fun r62 =>
 C6 r62.1 [
 l4 3 r62.2.1 fun v63 =>
 (y8 1 (strip (v63 1)) (v63 2)).bind fun x67 =>
 (y7 (v63 0)).bind fun y69 =>
 (E1 x67 [y69] r62.2.2).bind fun H70 =>
 (b7 (.int .i64) .add (strip (v63 2)) (.int .i64 1)).bind fun x73 =>
 (abl 1 (strip (v63 1)) none (some x73)).bind fun x74 =>
 some (x74,H70)]])):=(g9 vb _ _ _ rfl).trans (by kernel_rfl)
noncomputable def aoG:List V->VH->Option (Option Nat × List V × VH):=D1 (vb.ctx cv l6) (vb.b.G7 69) (vb.C7 69) ⟨⟨[0,1,5],[],[]⟩,[(.ret,⟨[4],[],[]⟩)]⟩ (D0 Tryz.f69 6)
theorem aom (a0 a1:V) (H:VH):cv aeB [a0,a1] H =
 (A3 a1).bind fun x2 =>
 (b7 (.int .i64) .eql x2 (.int .i64 0)).bind fun x3 =>
 j3 x3 (
 (qc aea [(j4 H a0)]).bind fun x5 =>
 (b7 (.int .i64) .add x5 (.int .i64 1)).bind fun x6 =>
 some (x6,H)) (
 (A3 (strip a1)).bind fun x9 =>
 (b7 (.int .i64) .eql x9 (.int .i64 1)).bind fun x10 =>
 j3 x10 (
 (A9 (strip (strip a1)) (.int .i64 0)).bind fun x13 =>
 (anL 1 [a0,x13] fun x14 =>
  some (x14,H))) (
 (l6 aoG [a0,(strip (strip a1)),(.int .i64 0)] H).bind fun r35 =>
 C6 r35.1 [
 l4 1 r35.2.1 fun v36 =>
 some ((v36 0),r35.2.2)])):=(g9 vb _ _ _ rfl).trans (by kernel_rfl)
theorem anS (a0 a1:V) (H:VH):cv aew [a0,a1] H =
 (qc N3 [(j4 H a0),(j4 H a1)]).bind fun x3 =>
 some (x3,H):=(g9 vb _ _ _ rfl).trans (by kernel_rfl)
theorem acw (a0 a1:V) (H:VH):cv C0 [a0,a1] H =
 (qc N8 [(j4 H (strip a0)),(j4 H a1)]).bind fun x3 =>
 (b7 (.int .i64) .geq x3 (.int .i64 0)).bind fun x4 =>
 some (x4,H):=(g9 vb _ _ _ rfl).trans (by kernel_rfl)
noncomputable def I9:List V->VH->Option (Option Nat × List V × VH):=D1 (vb.ctx cv l6) (vb.b.G7 61) (vb.C7 61) ⟨⟨[0,1,7,8],[],[]⟩,[(.exit 0,⟨[],[],[]⟩),(.ret,⟨[4],[],[]⟩)]⟩ (D0 Tryz.f61 2)
theorem U2 (v0 v1 v2 v3:V) (H:VH):I9 [v0,v1,v2,v3] H =
 (b7 (.int .i64) .lss v3 v2).bind fun x4 =>
 j3 x4 (
 (y8 1 (strip v0) v3).bind fun x10 =>
 (y5 l5 false false 1 x10 H).bind fun r12 =>
 (aeQ v1).bind fun p14 =>
 (qc p14.1 ((([r12.1]:List V)++p14.2).map (j4 r12.2))).bind fun x13 =>
 j3 x13 (
 some (some 1,[(strip v3)],r12.2)) (
 (b7 (.int .i64) .add (strip v3) (.int .i64 1)).bind fun x17 =>
 some (none,[v0,(strip v1),v2,x17],r12.2))) (
 some (some 0,[],H)):=by kernel_rfl
theorem ac6 (a0 a1:V) (H:VH):cv N8 [a0,a1] H =
 (y3 (strip a0)).bind fun x2 =>
 (l6 I9 [a0,a1,x2,(.int .i64 0)] H).bind fun r19 =>
 C6 r19.1 [
 l4 0 r19.2.1 fun v20 =>
 some ((.int .i64 (-1)),r19.2.2),
 l4 1 r19.2.1 fun v22 =>
 some ((v22 0),r19.2.2)]:=(g9 vb _ _ _ rfl).trans (by kernel_rfl)
theorem amZ (a0:V) (H:VH):cv abr [a0] H =
 (qc adT [(j4 H a0)]).bind fun x2 =>
 (C4 .not x2).bind fun x3 =>
 some (x3,H):=(g9 vb _ _ _ rfl).trans (by kernel_rfl)
theorem anb (a0:V) (H:VH):cv adT [a0] H =
 (A3 a0).bind fun x2 =>
 (b7 (.int .i64) .geq x2 (.int .i64 1)).bind fun x3 =>
 k9 x3 (
 (A3 (strip a0)).bind fun x6 =>
 (b7 (.int .i64) .leq x6 (.int .i64 40)).bind fun x7 =>
 k9 x7 (
 (qc aci [(j4 H (strip (strip a0))),(j4 H (.fn abd []))]).bind fun x11 =>
 some (x11,H)) (
 some ((.bool false),H))) (
 some ((.bool false),H)):=(g9 vb _ _ _ rfl).trans (by kernel_rfl)
noncomputable def ab8:List V->VH->Option (Option Nat × List V × VH):=D1 (vb.ctx cv l6) (vb.b.G7 123) (vb.C7 123) ⟨⟨[0,1,7,8],[],[]⟩,[(.exit 0,⟨[],[],[]⟩),(.ret,⟨[4],[],[]⟩)]⟩ (D0 Tryz.f123 2)
theorem afz (v0 v1 v2 v3:V) (H:VH):ab8 [v0,v1,v2,v3] H =
 (b7 (.int .i64) .lss v3 v2).bind fun x4 =>
 j3 x4 (
 (A9 v0 v3).bind fun x10 =>
 (aeQ v1).bind fun p12 =>
 (qc p12.1 ((([x10]:List V)++p12.2).map (j4 H))).bind fun x11 =>
 (C4 .not x11).bind fun x13 =>
 j3 x13 (
 some (some 1,[(.bool false)],H)) (
 (b7 (.int .i64) .add (strip v3) (.int .i64 1)).bind fun x15 =>
 some (none,[(strip v0),(strip v1),v2,x15],H))) (
 some (some 0,[],H)):=by kernel_rfl
theorem an5 (a0 a1:V) (H:VH):cv aci [a0,a1] H =
 (A3 a0).bind fun x2 =>
 (l6 ab8 [(strip a0),a1,x2,(.int .i64 0)] H).bind fun r17 =>
 C6 r17.1 [
 l4 0 r17.2.1 fun v18 =>
 some ((.bool true),r17.2.2),
 l4 1 r17.2.1 fun v20 =>
 some ((v20 0),r17.2.2)]:=(g9 vb _ _ _ rfl).trans (by kernel_rfl)
theorem ak9 (a0:V) (H:VH):cv abd [a0] H =
 (qc aeD [(j4 H a0)]).bind fun x2 =>
 k9 x2 (
 some ((.bool true),H)) (
 (qc aa5 [(j4 H (strip a0))]).bind fun x27 =>
 k9 x27 (
 some ((.bool true),H)) (
 (b7 (.int .u8) .eql (strip (strip a0)) (.int .u8 33)).bind fun x51 =>
 k9 x51 (
 some ((.bool true),H)) (
 (b7 (.int .u8) .geq (strip (strip (strip a0))) (.int .u8 35)).bind fun x73 =>
 k9 x73 (
 (b7 (.int .u8) .leq (strip (strip (strip (strip a0)))) (.int .u8 39)).bind fun x76 =>
 k9 x76 (
 some ((.bool true),H)) (
 (b7 (.int .u8) .eql (strip (strip (strip (strip (strip a0))))) (.int .u8 42)).bind fun x97 =>
 k9 x97 (
 some ((.bool true),H)) (
 (b7 (.int .u8) .eql (strip (strip (strip (strip (strip (strip a0)))))) (.int .u8 43)).bind fun x115 =>
 k9 x115 (
 some ((.bool true),H)) (
 (b7 (.int .u8) .eql (strip (strip (strip (strip (strip (strip (strip a0))))))) (.int .u8 45)).bind fun x131 =>
 k9 x131 (
 some ((.bool true),H)) (
 (b7 (.int .u8) .eql (strip (strip (strip (strip (strip (strip (strip (strip a0)))))))) (.int .u8 47)).bind fun x145 =>
 k9 x145 (
 some ((.bool true),H)) (
 (b7 (.int .u8) .eql (strip (strip (strip (strip (strip (strip (strip (strip (strip a0))))))))) (.int .u8 61)).bind fun x157 =>
 k9 x157 (
 some ((.bool true),H)) (
 (b7 (.int .u8) .eql (strip (strip (strip (strip (strip (strip (strip (strip (strip (strip a0)))))))))) (.int .u8 63)).bind fun x167 =>
 k9 x167 (
 some ((.bool true),H)) (
 (b7 (.int .u8) .geq (strip (strip (strip (strip (strip (strip (strip (strip (strip (strip (strip a0))))))))))) (.int .u8 94)).bind fun x175 =>
 k9 x175 (
 (b7 (.int .u8) .leq (strip (strip (strip (strip (strip (strip (strip (strip (strip (strip (strip (strip a0)))))))))))) (.int .u8 96)).bind fun x178 =>
 k9 x178 (
 some ((.bool true),H)) (
 (b7 (.int .u8) .geq (strip (strip (strip (strip (strip (strip (strip (strip (strip (strip (strip (strip (strip a0))))))))))))) (.int .u8 123)).bind fun x185 =>
 k9 x185 (
 (b7 (.int .u8) .leq (strip (strip (strip (strip (strip (strip (strip (strip (strip (strip (strip (strip (strip (strip a0)))))))))))))) (.int .u8 126)).bind fun x188 =>
 some (x188,H)) (
 some ((.bool false),H)))) (
 (b7 (.int .u8) .geq (strip (strip (strip (strip (strip (strip (strip (strip (strip (strip (strip (strip a0)))))))))))) (.int .u8 123)).bind fun x199 =>
 k9 x199 (
 (b7 (.int .u8) .leq (strip (strip (strip (strip (strip (strip (strip (strip (strip (strip (strip (strip (strip a0))))))))))))) (.int .u8 126)).bind fun x202 =>
 some (x202,H)) (
 some ((.bool false),H))))))))))) (
 (b7 (.int .u8) .eql (strip (strip (strip (strip a0)))) (.int .u8 42)).bind fun x213 =>
 k9 x213 (
 some ((.bool true),H)) (
 (b7 (.int .u8) .eql (strip (strip (strip (strip (strip a0))))) (.int .u8 43)).bind fun x231 =>
 k9 x231 (
 some ((.bool true),H)) (
 (b7 (.int .u8) .eql (strip (strip (strip (strip (strip (strip a0)))))) (.int .u8 45)).bind fun x247 =>
 k9 x247 (
 some ((.bool true),H)) (
 (b7 (.int .u8) .eql (strip (strip (strip (strip (strip (strip (strip a0))))))) (.int .u8 47)).bind fun x261 =>
 k9 x261 (
 some ((.bool true),H)) (
 (b7 (.int .u8) .eql (strip (strip (strip (strip (strip (strip (strip (strip a0)))))))) (.int .u8 61)).bind fun x273 =>
 k9 x273 (
 some ((.bool true),H)) (
 (b7 (.int .u8) .eql (strip (strip (strip (strip (strip (strip (strip (strip (strip a0))))))))) (.int .u8 63)).bind fun x283 =>
 k9 x283 (
 some ((.bool true),H)) (
 (b7 (.int .u8) .geq (strip (strip (strip (strip (strip (strip (strip (strip (strip (strip a0)))))))))) (.int .u8 94)).bind fun x291 =>
 k9 x291 (
 (b7 (.int .u8) .leq (strip (strip (strip (strip (strip (strip (strip (strip (strip (strip (strip a0))))))))))) (.int .u8 96)).bind fun x294 =>
 k9 x294 (
 some ((.bool true),H)) (
 (b7 (.int .u8) .geq (strip (strip (strip (strip (strip (strip (strip (strip (strip (strip (strip (strip a0)))))))))))) (.int .u8 123)).bind fun x301 =>
 k9 x301 (
 (b7 (.int .u8) .leq (strip (strip (strip (strip (strip (strip (strip (strip (strip (strip (strip (strip (strip a0))))))))))))) (.int .u8 126)).bind fun x304 =>
 some (x304,H)) (
 some ((.bool false),H)))) (
 (b7 (.int .u8) .geq (strip (strip (strip (strip (strip (strip (strip (strip (strip (strip (strip a0))))))))))) (.int .u8 123)).bind fun x315 =>
 k9 x315 (
 (b7 (.int .u8) .leq (strip (strip (strip (strip (strip (strip (strip (strip (strip (strip (strip (strip a0)))))))))))) (.int .u8 126)).bind fun x318 =>
 some (x318,H)) (
 some ((.bool false),H))))))))))))):=(g9 vb _ _ _ rfl).trans (by kernel_rfl)
theorem anT (a0:V) (H:VH):cv aeD [a0] H =
 (b7 (.int .u8) .geq a0 (.int .u8 97)).bind fun x2 =>
 k9 x2 (
 (b7 (.int .u8) .leq (strip a0) (.int .u8 122)).bind fun x5 =>
 k9 x5 (
 some ((.bool true),H)) (
 (b7 (.int .u8) .geq (strip (strip a0)) (.int .u8 65)).bind fun x11 =>
 k9 x11 (
 (b7 (.int .u8) .leq (strip (strip (strip a0))) (.int .u8 90)).bind fun x14 =>
 some (x14,H)) (
 some ((.bool false),H)))) (
 (b7 (.int .u8) .geq (strip a0) (.int .u8 65)).bind fun x24 =>
 k9 x24 (
 (b7 (.int .u8) .leq (strip (strip a0)) (.int .u8 90)).bind fun x27 =>
 some (x27,H)) (
 some ((.bool false),H))):=(g9 vb _ _ _ rfl).trans (by kernel_rfl)
theorem ao4 (a0:V) (H:VH):cv aa5 [a0] H =
 (b7 (.int .u8) .geq a0 (.int .u8 48)).bind fun x2 =>
 k9 x2 (
 (b7 (.int .u8) .leq (strip a0) (.int .u8 57)).bind fun x5 =>
 some (x5,H)) (
 some ((.bool false),H)):=(g9 vb _ _ _ rfl).trans (by kernel_rfl)
theorem aoM (a0:V) (H:VH):cv V4 [a0] H =
 (A3 a0).bind fun x2 =>
 (b7 (.int .i64) .leq x2 (.int .i64 40)).bind fun x3 =>
 k9 x3 (
 (pc V3 [(j4 H (strip a0)),(j4 H (.str [46]))]).bind fun x6 =>
 (qc C0 [(j4 H x6),(j4 H (.fn aa9 []))]).bind fun x7 =>
 (C4 .not x7).bind fun x8 =>
 some (x8,H)) (
 some ((.bool false),H)):=(g9 vb _ _ _ rfl).trans (by kernel_rfl)
theorem alO (a0:V) (H:VH):cv aa9 [a0] H =
 (qc aeV [(j4 H a0)]).bind fun x2 =>
 (C4 .not x2).bind fun x3 =>
 some (x3,H):=(g9 vb _ _ _ rfl).trans (by kernel_rfl)
theorem ap3 (a0:V) (H:VH):cv aeV [a0] H =
 (b7 .str .neq a0 (.str [])).bind fun x2 =>
 k9 x2 (
 (A9 (strip a0) (.int .i64 0)).bind fun x5 =>
 (b7 (.int .u8) .neq x5 (.int .u8 45)).bind fun x6 =>
 k9 x6 (
 (A3 (strip (strip (strip a0)))).bind fun x11 =>
 (b7 (.int .i64) .sub x11 (.int .i64 1)).bind fun x12 =>
 (A9 (strip (strip a0)) x12).bind fun x13 =>
 (b7 (.int .u8) .neq x13 (.int .u8 45)).bind fun x14 =>
 k9 x14 (
 (qc aci [(j4 H (strip (strip (strip (strip a0))))),(j4 H (.fn aby []))]).bind fun x18 =>
 some (x18,H)) (
 some ((.bool false),H))) (
 some ((.bool false),H))) (
 some ((.bool false),H)):=(g9 vb _ _ _ rfl).trans (by kernel_rfl)
theorem anj (a0:V) (H:VH):cv aby [a0] H =
 (b7 (.int .u8) .geq a0 (.int .u8 97)).bind fun x2 =>
 k9 x2 (
 (b7 (.int .u8) .leq (strip a0) (.int .u8 122)).bind fun x5 =>
 k9 x5 (
 some ((.bool true),H)) (
 (qc aa5 [(j4 H (strip (strip a0)))]).bind fun x13 =>
 k9 x13 (
 some ((.bool true),H)) (
 (b7 (.int .u8) .eql (strip (strip (strip a0))) (.int .u8 45)).bind fun x19 =>
 some (x19,H)))) (
 (qc aa5 [(j4 H (strip a0))]).bind fun x25 =>
 k9 x25 (
 some ((.bool true),H)) (
 (b7 (.int .u8) .eql (strip (strip a0)) (.int .u8 45)).bind fun x31 =>
 some (x31,H))):=(g9 vb _ _ _ rfl).trans (by kernel_rfl)
theorem aj8 (a0:V) (H:VH):cv aam [a0] H =
 (qc aaw [(j4 H a0)]).bind fun x2 =>
 (C4 .not x2).bind fun x3 =>
 some (x3,H):=(g9 vb _ _ _ rfl).trans (by kernel_rfl)
theorem aoP (a0 a1:V) (H:VH):cv aez [a0,a1] H =
 (y3 (strip a0)).bind fun x2 =>
 (b7 (.int .i64) .leq x2 a1).bind fun x4 =>
 k9 x4 (
 (qc C0 [(j4 H (strip a0)),(j4 H (.fn aa2 []))]).bind fun x7 =>
 (C4 .not x7).bind fun x8 =>
 some (x8,H)) (
 some ((.bool false),H)):=(g9 vb _ _ _ rfl).trans (by kernel_rfl)
theorem alK (a0:V) (H:VH):cv aa2 [a0] H =
 (qc aab [(j4 H a0)]).bind fun x2 =>
 (C4 .not x2).bind fun x3 =>
 some (x3,H):=(g9 vb _ _ _ rfl).trans (by kernel_rfl)
noncomputable def abp:List V->VH->Option (Option Nat × List V × VH):=D1 (vb.ctx cv l6) (vb.b.G7 33) (vb.C7 33) ⟨⟨[0,5,6],[],[]⟩,[(.exit 0,⟨[0],[],[]⟩),(.ret,⟨[2],[],[]⟩)]⟩ (D0 Tryz.f33 2)
theorem afn (v0 v1 v2:V) (H:VH):abp [v0,v1,v2] H =
 (b7 (.int .i64) .lss v2 v1).bind fun x4 =>
 j3 x4 (
 (A9 v0 v2).bind fun x9 =>
 (b7 (.int .u8) .lss x9 (.int .u8 32)).bind fun x10 =>
 k9 x10 (
 some (some 1,[(.bool false)],H)) (
 (A9 (strip v0) (strip v2)).bind fun x16 =>
 (b7 (.int .u8) .gtr x16 (.int .u8 126)).bind fun x17 =>
 j3 x17 (
 some (some 1,[(.bool false)],H)) (
 (b7 (.int .i64) .add (strip v2) (.int .i64 1)).bind fun x20 =>
 some (none,[(strip (strip v0)),v1,x20],H)))) (
 some (some 0,[v0],H)):=by kernel_rfl
theorem am9 (a0:V) (H:VH):cv aab [a0] H =
 (A3 a0).bind fun x2 =>
 (l6 abp [(strip a0),x2,(.int .i64 0)] H).bind fun r22 =>
 C6 r22.1 [
 l4 1 r22.2.1 fun v23 =>
 (A3 (v23 0)).bind fun x25 =>
 (b7 (.int .i64) .leq x25 (.int .i64 200)).bind fun x26 =>
 some (x26,r22.2.2),
 l4 1 r22.2.1 fun v28 =>
 some ((v28 0),r22.2.2)]:=(g9 vb _ _ _ rfl).trans (by kernel_rfl)
theorem ap4 (a0:V) (H:VH):cv afr [a0] H =
 (qc T2 [(j4 H a0),(j4 H (.str [46]))]).bind fun x2 =>
 j3 x2 (
 (b7 .str .add (.str [46]) (strip a0)).bind fun x4 =>
 some (x4,H)) (
 some ((strip a0),H)):=(g9 vb _ _ _ rfl).trans (by kernel_rfl)
theorem ajN (a0 a1:V) (H:VH):cv T2 [a0,a1] H =
 (qc G6 [(j4 H a0),(j4 H a1)]).bind fun x3 =>
 some (x3,H):=(g9 vb _ _ _ rfl).trans (by kernel_rfl)
theorem aec (a0 a1:V) (H:VH):cv G6 [a0,a1] H =
 (A3 a0).bind fun x2 =>
 (A3 a1).bind fun x4 =>
 (b7 (.int .i64) .geq x2 x4).bind fun x5 =>
 k9 x5 (
 (A3 (strip a1)).bind fun x9 =>
 (C9 (strip a0) none (some x9)).bind fun x10 =>
 (b7 .str .eql x10 (strip (strip a1))).bind fun x12 =>
 some (x12,H)) (
 some ((.bool false),H)):=(g9 vb _ _ _ rfl).trans (by kernel_rfl)
theorem ak1 (a0:V) (H:VH):cv aaN [a0] H =
 (qc aab [(j4 H a0)]).bind fun x2 =>
 (C4 .not x2).bind fun x3 =>
 some (x3,H):=(g9 vb _ _ _ rfl).trans (by kernel_rfl)
noncomputable def agO:List V->VH->Option (Option Nat × List V × VH):=D1 (vb.ctx cv l6) (vb.b.G7 11) (vb.C7 11) ⟨⟨[4,5],[(1,(1,0))],[(1,3)]⟩,[(.exit 0,⟨[4],[(1,(1,0))],[(1,3)]⟩)]⟩ (D0 Tryz.f11 5)
noncomputable def ags:List V->VH->Option (Option Nat × List V × VH):=D1 (vb.ctx cv l6) (vb.b.G7 11) (vb.C7 11) ⟨⟨[4,6],[(1,(1,0))],[(1,3)]⟩,[(.exit 2,⟨[4],[],[]⟩),(.ret,⟨[2,3],[],[]⟩)]⟩ (D0 Tryz.f11 10)
theorem akm (v0 v1 v2 v3 v4:V) (H:VH):agO [v0,v1,v2,v3,v4] H =
 (y3 (strip v3)).bind fun x21 =>
 (b7 (.int .i64) .lss v1 x21).bind fun x22 =>
 j3 x22 (
 (y8 1 (strip v3) (strip v1)).bind fun x27 =>
 (y5 l5 false false 1 x27 H).bind fun r29 =>
 (b7 .str .add (.str [82,67,80,84,32,84,79,58,60]) r29.1).bind fun x30 =>
 (b7 .str .add x30 (.str [62])).bind fun x31 =>
 (y7 x31).bind fun y33 =>
 (S6 v0).bind fun s35 =>
 (F8 false 1 16 s35 (.sl true [[y33]])).bind fun x34 =>
 (b7 (.int .i64) .add (strip (strip v1)) (.int .i64 1)).bind fun x38 =>
 some (none,[x34,x38,v2,v3,v4],r29.2)) (
 some (some 0,[v0,v2,v3,v4],H)):=by kernel_rfl
theorem aja (v0 v1 v2 v3 v4:V) (H:VH):ags [v0,v1,v2,v3,v4] H =
 (y3 (strip v4)).bind fun x51 =>
 (b7 (.int .i64) .lss v1 x51).bind fun x52 =>
 j3 x52 (
 (id (
 (y8 1 (strip v4) (strip v1)).bind fun x56 =>
 (y5 l5 false false 1 x56 H).bind fun r58 =>
 (id (
 (b7 .str .neq r58.1 (.str [])).bind fun x61 =>
 k9 x61 (
 (A9 (strip r58.1) (.int .i64 0)).bind fun x64 =>
 (b7 (.int .u8) .eql x64 (.int .u8 46)).bind fun x65 =>
 j3 x65 (
 (b7 .str .add (.str [46]) (strip (strip r58.1))).bind fun x68 =>
 some (0,[v0,(strip (strip v1)),x68,v2,v3,v4],r58.2)) (
 some (0,[v0,(strip (strip v1)),(strip (strip r58.1)),v2,v3,v4],r58.2))) (
 some (0,[v0,(strip (strip v1)),(strip r58.1),v2,v3,v4],r58.2)):Option (Nat × List V × VH))).bind fun r71 =>
 C6 r71.1 [
 l4 6 r71.2.1 fun v72 =>
 (qc O6 [(j4 r71.2.2 (v72 2))]).bind fun x74 =>
 (C4 .not x74).bind fun x75 =>
 j3 x75 (
 some (0,[(.sl true []),(.bool false)],r71.2.2)) (
 (y7 (strip (v72 2))).bind fun y82 =>
 (S6 (v72 0)).bind fun s84 =>
 (F8 false 1 16 s84 (.sl true [[y82]])).bind fun x83 =>
 some (1,[x83,(v72 1),(v72 3),(v72 4),(v72 5)],r71.2.2))]:Option (Nat × List V × VH))).bind fun r86 =>
 C6 r86.1 [
 l4 2 r86.2.1 fun v87 =>
 some (some 1,[(v87 0),(v87 1)],r86.2.2),
 l4 5 r86.2.1 fun v88 =>
 (b7 (.int .i64) .add (v88 1) (.int .i64 1)).bind fun x90 =>
 some (none,[(v88 0),x90,(v88 2),(v88 3),(v88 4)],r86.2.2)]) (
 some (some 0,[v0],H)):=by kernel_rfl
theorem ane (a0:V) (H:VH):cv abA [a0] H =
 (C5 3 a0).bind fun c1 =>
 (qc adR [(j4 H (.agg [(strip (c1.getD 0 .g8)),(strip (c1.getD 1 .g8)),(strip (c1.getD 2 .g8))]))]).bind fun x5 =>
 (C4 .not x5).bind fun x6 =>
 j3 x6 (
 some ((.n9 [(.sl true []),(.bool false)]),H)) (
 (b7 .str .add (.str [77,65,73,76,32,70,82,79,77,58,60]) (strip (c1.getD 0 .g8))).bind fun x12 =>
 (b7 .str .add x12 (.str [62])).bind fun x13 =>
 (y7 x13).bind fun y15 =>
 (l6 agO [(.sl true [[y15]]),(.int .i64 0),(c1.getD 0 .g8),(c1.getD 1 .g8),(c1.getD 2 .g8)] H).bind fun r40 =>
 C6 r40.1 [
 l4 4 r40.2.1 fun v41 =>
 (S6 (v41 0)).bind fun s45 =>
 (F8 false 1 16 s45 (.sl true [[(.str [68,65,84,65])]])).bind fun x44 =>
 (l6 ags [x44,(.int .i64 0),(v41 1),(v41 2),(v41 3)] r40.2.2).bind fun r92 =>
 C6 r92.1 [
 l4 1 r92.2.1 fun v93 =>
 (S6 (v93 0)).bind fun s97 =>
 (F8 false 1 16 s97 (.sl true [[(.str [46])]])).bind fun x96 =>
 some ((.n9 [x96,(.bool true)]),r92.2.2),
 l4 2 r92.2.1 fun v100 =>
 some ((.n9 [(v100 0),(v100 1)]),r92.2.2)]]):=(g9 vb _ _ _ rfl).trans (by kernel_rfl)
theorem am0 (a0:V) (H:VH):cv adR [a0] H =
 (C5 3 a0).bind fun c1 =>
 (qc aeo [(j4 H (.agg [(strip (c1.getD 0 .g8)),(strip (c1.getD 1 .g8)),(strip (c1.getD 2 .g8))]))]).bind fun x4 =>
 k9 x4 (
 (y3 (strip (c1.getD 1 .g8))).bind fun x8 =>
 (b7 (.int .i64) .gtr x8 (.int .i64 0)).bind fun x9 =>
 k9 x9 (
 (y3 (strip (c1.getD 2 .g8))).bind fun x14 =>
 (b7 (.int .i64) .leq x14 (.int .i64 30)).bind fun x15 =>
 some (x15,H)) (
 some ((.bool false),H))) (
 some ((.bool false),H)):=(g9 vb _ _ _ rfl).trans (by kernel_rfl)
noncomputable def acg:List V->VH->Option (Option Nat × List V × VH):=D1 (vb.ctx cv l6) (vb.b.G7 62) (vb.C7 62) ⟨⟨[3],[(1,(1,0))],[(1,3)]⟩,[(.exit 0,⟨[],[(1,(1,0))],[(1,3)]⟩),(.ret,⟨[2],[],[]⟩)]⟩ (D0 Tryz.f62 4)
noncomputable def acp:List V->VH->Option (Option Nat × List V × VH):=D1 (vb.ctx cv l6) (vb.b.G7 62) (vb.C7 62) ⟨⟨[4],[(1,(1,0))],[(1,3)]⟩,[(.exit 2,⟨[],[],[]⟩),(.ret,⟨[2],[],[]⟩)]⟩ (D0 Tryz.f62 9)
theorem afw (v0 v1 v2 v3:V) (H:VH):acg [v0,v1,v2,v3] H =
 (y3 (strip v2)).bind fun x54 =>
 (b7 (.int .i64) .lss v0 x54).bind fun x55 =>
 j3 x55 (
 (y8 1 (strip v2) (strip v0)).bind fun x59 =>
 (y5 l5 false false 1 x59 H).bind fun r61 =>
 (qc adH [(j4 r61.2 r61.1)]).bind fun x62 =>
 (C4 .not x62).bind fun x63 =>
 j3 x63 (
 some (some 1,[(.bool false)],r61.2)) (
 (b7 (.int .i64) .add (strip (strip v0)) (.int .i64 1)).bind fun x66 =>
 some (none,[x66,v1,v2,v3],r61.2))) (
 some (some 0,[v1,v2,v3],H)):=by kernel_rfl
theorem afy (v0 v1 v2 v3:V) (H:VH):acp [v0,v1,v2,v3] H =
 (y3 (strip v3)).bind fun x74 =>
 (b7 (.int .i64) .lss v0 x74).bind fun x75 =>
 j3 x75 (
 (y8 1 (strip v3) (strip v0)).bind fun x79 =>
 (y5 l5 false false 1 x79 H).bind fun r81 =>
 (qc O6 [(j4 r81.2 r81.1)]).bind fun x82 =>
 (C4 .not x82).bind fun x83 =>
 j3 x83 (
 some (some 1,[(.bool false)],r81.2)) (
 (b7 (.int .i64) .add (strip (strip v0)) (.int .i64 1)).bind fun x86 =>
 some (none,[x86,v1,v2,v3],r81.2))) (
 some (some 0,[],H)):=by kernel_rfl
theorem anW (a0:V) (H:VH):cv aeo [a0] H =
 (C5 3 a0).bind fun c1 =>
 (id (
 (b7 .str .neq (strip (c1.getD 0 .g8)) (.str [])).bind fun x5 =>
 k9 x5 (
 (qc adH [(j4 H (strip (c1.getD 0 .g8)))]).bind fun x9 =>
 (C4 .not x9).bind fun x10 =>
 k9 x10 (
 some (0,[(.bool false)],H)) (
 (y3 (strip (c1.getD 1 .g8))).bind fun x19 =>
 (b7 (.int .i64) .gtr x19 (.int .i64 10)).bind fun x20 =>
 k9 x20 (
 some (0,[(.bool false)],H)) (
 (y3 (strip (c1.getD 2 .g8))).bind fun x27 =>
 (b7 (.int .i64) .gtr x27 (.int .i64 31)).bind fun x28 =>
 j3 x28 (
 some (0,[(.bool false)],H)) (
 some (1,[(c1.getD 0 .g8),(c1.getD 1 .g8),(c1.getD 2 .g8)],H))))) (
 (y3 (strip (c1.getD 1 .g8))).bind fun x35 =>
 (b7 (.int .i64) .gtr x35 (.int .i64 10)).bind fun x36 =>
 k9 x36 (
 some (0,[(.bool false)],H)) (
 (y3 (strip (c1.getD 2 .g8))).bind fun x43 =>
 (b7 (.int .i64) .gtr x43 (.int .i64 31)).bind fun x44 =>
 j3 x44 (
 some (0,[(.bool false)],H)) (
 some (1,[(c1.getD 0 .g8),(c1.getD 1 .g8),(c1.getD 2 .g8)],H)))):Option (Nat × List V × VH))).bind fun r47 =>
 C6 r47.1 [
 l4 1 r47.2.1 fun v48 =>
 some ((v48 0),r47.2.2),
 l4 3 r47.2.1 fun v49 =>
 (l6 acg [(.int .i64 0),(v49 0),(v49 1),(v49 2)] r47.2.2).bind fun r68 =>
 C6 r68.1 [
 l4 3 r68.2.1 fun v69 =>
 (l6 acp [(.int .i64 0),(v69 0),(v69 1),(v69 2)] r68.2.2).bind fun r88 =>
 C6 r88.1 [
 l4 0 r88.2.1 fun v89 =>
 some ((.bool true),r88.2.2),
 l4 1 r88.2.1 fun v91 =>
 some ((v91 0),r88.2.2)],
 l4 1 r68.2.1 fun v92 =>
 some ((v92 0),r68.2.2)]]:=(g9 vb _ _ _ rfl).trans (by kernel_rfl)
theorem ari (a0:V) (H:VH):cv adH [a0] H =
 (pc agw [(j4 H a0)]).bind fun x2 =>
 (z7 x2 0).bind fun x4 =>
 (z7 x2 1).bind fun x5 =>
 (C5 3 (strip x4)).bind fun c8 =>
 k9 (strip x5) (
 (b7 .str .add (strip (c8.getD 1 .g8)) (.str [64])).bind fun x14 =>
 (b7 .str .add x14 (strip (c8.getD 2 .g8))).bind fun x17 =>
 (b7 .str .eql x17 (strip a0)).bind fun x19 =>
 some (x19,H)) (
 some ((.bool false),H)):=(g9 vb _ _ _ rfl).trans (by kernel_rfl)
theorem asr (a0:V) (H:VH):cv agw [a0] H =
 (qc acv [(j4 H a0),(j4 H (.int .u8 64))]).bind fun x3 =>
 (z7 x3 0).bind fun x5 =>
 (z7 x3 1).bind fun x6 =>
 (z7 x3 2).bind fun x7 =>
 (qc abq [(j4 H (strip x6))]).bind fun x13 =>
 (y7 (strip x5)).bind fun y15 =>
 (y7 x13).bind fun y16 =>
 k9 (strip x7) (
 (qc ab7 [(j4 H (.agg [(.str []),(strip y15),(strip y16)]))]).bind fun x23 =>
 some ((.n9 [(.agg [(.str []),(strip y15),(strip y16)]),x23]),H)) (
 some ((.n9 [(.agg [(.str []),(strip y15),(strip y16)]),(.bool false)]),H)):=(g9 vb _ _ _ rfl).trans (by kernel_rfl)
noncomputable def akV:List V->VH->Option (Option Nat × List V × VH):=D1 (vb.ctx cv l6) (vb.b.G7 184) (vb.C7 184) ⟨⟨[0,1,7],[],[]⟩,[(.exit 0,⟨[0],[],[]⟩),(.ret,⟨[4,5,6],[],[]⟩)]⟩ (D0 Tryz.f184 2)
theorem anX (v0 v1 v2:V) (H:VH):akV [v0,v1,v2] H =
 (A3 v0).bind fun x6 =>
 (b7 (.int .i64) .lss v2 x6).bind fun x7 =>
 j3 x7 (
 (A9 (strip v0) (strip v2)).bind fun x10 =>
 (b7 (.int .u8) .eql x10 (.int .u8 34)).bind fun x11 =>
 j3 x11 (
 (qc adp [(j4 H (strip (strip v0))),(j4 H (strip (strip v2)))]).bind fun x14 =>
 (z7 x14 0).bind fun x16 =>
 (z7 x14 1).bind fun x17 =>
 (b7 (.int .i64) .lss (strip x17) (.int .i64 0)).bind fun x21 =>
 j3 x21 (
 some (some 1,[(strip (strip (strip v0))),(.str []),(.bool false)],H)) (
 some (none,[(strip (strip (strip v0))),v1,(strip (strip x17))],H))) (
 (A9 (strip (strip v0)) (strip (strip v2))).bind fun x30 =>
 (b7 (.int .u8) .eql x30 v1).bind fun x32 =>
 j3 x32 (
 (C9 (strip (strip (strip v0))) none (some (strip (strip (strip v2))))).bind fun x35 =>
 (b7 (.int .i64) .add (strip (strip (strip (strip v2)))) (.int .i64 1)).bind fun x38 =>
 (C9 (strip (strip (strip (strip v0)))) (some x38) none).bind fun x39 =>
 some (some 1,[x35,x39,(.bool true)],H)) (
 (b7 (.int .i64) .add (strip (strip (strip v2))) (.int .i64 1)).bind fun x44 =>
 some (none,[(strip (strip (strip v0))),(strip v1),x44],H)))) (
 some (some 0,[(strip v0)],H)):=by kernel_rfl
theorem asq (a0 a1:V) (H:VH):cv acv [a0,a1] H =
 (l6 akV [a0,a1,(.int .i64 0)] H).bind fun r46 =>
 C6 r46.1 [
 l4 1 r46.2.1 fun v47 =>
 some ((.n9 [(v47 0),(.str []),(.bool false)]),r46.2.2),
 l4 3 r46.2.1 fun v52 =>
 some ((.n9 [(v52 0),(v52 1),(v52 2)]),r46.2.2)]:=(g9 vb _ _ _ rfl).trans (by kernel_rfl)
noncomputable def ajb:List V->VH->Option (Option Nat × List V × VH):=D1 (vb.ctx cv l6) (vb.b.G7 208) (vb.C7 208) ⟨⟨[0,6,7],[],[]⟩,[(.exit 0,⟨[],[],[]⟩),(.ret,⟨[4,5],[],[]⟩)]⟩ (D0 Tryz.f208 3)
theorem amX (v0 v1 v2:V) (H:VH):ajb [v0,v1,v2] H =
 (A3 v0).bind fun x8 =>
 (b7 (.int .i64) .lss v2 x8).bind fun x9 =>
 j3 x9 (
 (id (
 (A9 (strip v0) (strip v2)).bind fun x12 =>
 (b7 (.int .u8) .eql x12 (.int .u8 34)).bind fun x13 =>
 j3 x13 (
 (b7 (.int .i64) .add (strip (strip v2)) (.int .i64 1)).bind fun x16 =>
 some (0,[v1,x16],H)) (
 (id (
 (A9 (strip (strip v0)) (strip (strip v2))).bind fun x21 =>
 (b7 (.int .u8) .eql x21 (.int .u8 92)).bind fun x22 =>
 j3 x22 (
 (b7 (.int .i64) .add (strip (strip (strip v2))) (.int .i64 1)).bind fun x24 =>
 (A3 (strip (strip (strip v0)))).bind fun x28 =>
 (b7 (.int .i64) .eql x24 x28).bind fun x29 =>
 j3 x29 (
 some (0,[(.str []),(.int .i64 (-1))],H)) (
 some (1,[(strip (strip (strip (strip v0)))),v1,(strip x24)],H))) (
 some (1,[(strip (strip (strip v0))),v1,(strip (strip (strip v2)))],H)):Option (Nat × List V × VH))).bind fun r32 =>
 C6 r32.1 [
 l4 2 r32.2.1 fun v33 =>
 some (0,[(v33 0),(v33 1)],r32.2.2),
 l4 3 r32.2.1 fun v34 =>
 (b7 (.int .i64) .add (strip (v34 2)) (.int .i64 1)).bind fun x39 =>
 (C9 (v34 0) (some (v34 2)) (some x39)).bind fun x40 =>
 (b7 .str .add (v34 1) x40).bind fun x41 =>
 some (1,[(strip (v34 0)),x41,(strip (strip (v34 2)))],r32.2.2)]):Option (Nat × List V × VH))).bind fun r43 =>
 C6 r43.1 [
 l4 2 r43.2.1 fun v44 =>
 some (some 1,[(v44 0),(v44 1)],r43.2.2),
 l4 3 r43.2.1 fun v45 =>
 (b7 (.int .i64) .add (v45 2) (.int .i64 1)).bind fun x47 =>
 some (none,[(v45 0),(v45 1),x47],r43.2.2)]) (
 some (some 0,[],H)):=by kernel_rfl
theorem aq6 (a0 a1:V) (H:VH):cv adp [a0,a1] H =
 (b7 (.int .i64) .add a1 (.int .i64 1)).bind fun x4 =>
 (l6 ajb [a0,(.str []),x4] H).bind fun r49 =>
 C6 r49.1 [
 l4 0 r49.2.1 fun v50 =>
 some ((.n9 [(.str []),(.int .i64 (-1))]),r49.2.2),
 l4 2 r49.2.1 fun v53 =>
 some ((.n9 [(v53 0),(v53 1)]),r49.2.2)]:=(g9 vb _ _ _ rfl).trans (by kernel_rfl)
noncomputable def agR:List V->VH->Option (Option Nat × List V × VH):=D1 (vb.ctx cv l6) (vb.b.G7 185) (vb.C7 185) ⟨⟨[3,4],[],[]⟩,[(.exit 0,⟨[3],[],[]⟩)]⟩ (D0 Tryz.f185 3)
theorem akC (v0 v1:V) (H:VH):agR [v0,v1] H =
 (y3 (strip v0)).bind fun x7 =>
 (b7 (.int .i64) .lss v1 x7).bind fun x8 =>
 j3 x8 (
 (id (
 (y8 1 (strip v0) (strip v1)).bind fun x11 =>
 (y5 l5 false false 1 x11 H).bind fun r13 =>
 (b7 (.int .u8) .geq r13.1 (.int .u8 65)).bind fun x14 =>
 k9 x14 (
 (y8 1 (strip v0) (strip (strip v1))).bind fun x18 =>
 (y5 l5 false false 1 x18 r13.2).bind fun r20 =>
 (b7 (.int .u8) .leq r20.1 (.int .u8 90)).bind fun x21 =>
 j3 x21 (
 (y8 1 (strip v0) (strip (strip (strip (strip v1))))).bind fun x27 =>
 (y5 l5 false false 1 x27 r20.2).bind fun r29 =>
 (b7 (.int .u8) .add r29.1 (.int .u8 32)).bind fun x30 =>
 (y8 1 (strip v0) (strip (strip (strip v1)))).bind fun x31 =>
 (y7 x30).bind fun y33 =>
 (E1 x31 [y33] r29.2).bind fun H34 =>
 some (0,[v0,(strip (strip (strip (strip (strip v1)))))],H34)) (
 some (0,[v0,(strip (strip (strip v1)))],r20.2))) (
 some (0,[v0,(strip (strip v1))],r13.2)):Option (Nat × List V × VH))).bind fun r36 =>
 C6 r36.1 [
 l4 2 r36.2.1 fun v37 =>
 (b7 (.int .i64) .add (v37 1) (.int .i64 1)).bind fun x39 =>
 some (none,[(v37 0),x39],r36.2.2)]) (
 some (some 0,[v0],H)):=by kernel_rfl
theorem am3 (a0:V) (H:VH):cv abq [a0] H =
 (asP a0).bind fun x2 =>
 (l6 agR [(.y1 H.length 0 x2.length 1),(.int .i64 0)] (H++[x2])).bind fun r41 =>
 C6 r41.1 [
 l4 1 r41.2.1 fun v42 =>
 (aiO (strip (v42 0)) r41.2.2).bind fun x44 =>
 some (x44,r41.2.2)]:=(g9 vb _ _ _ rfl).trans (by kernel_rfl)
theorem akK (a0:V) (H:VH):cv ab7 [a0] H =
 (C5 3 a0).bind fun c1 =>
 (qc afM [(j4 H (strip (c1.getD 0 .g8)))]).bind fun x5 =>
 k9 x5 (
 (A3 (strip (c1.getD 1 .g8))).bind fun x9 =>
 (b7 (.int .i64) .leq x9 (.int .i64 30)).bind fun x10 =>
 k9 x10 (
 (qc ae8 [(j4 H (strip (c1.getD 1 .g8)))]).bind fun x15 =>
 k9 x15 (
 (A3 (strip (c1.getD 2 .g8))).bind fun x20 =>
 (b7 (.int .i64) .leq x20 (.int .i64 40)).bind fun x21 =>
 k9 x21 (
 (qc aep [(j4 H (strip (c1.getD 2 .g8)))]).bind fun x26 =>
 some (x26,H)) (
 some ((.bool false),H))) (
 some ((.bool false),H))) (
 some ((.bool false),H))) (
 some ((.bool false),H)):=(g9 vb _ _ _ rfl).trans (by kernel_rfl)
theorem aro (a0:V) (H:VH):cv afM [a0] H =
 (qc O6 [(j4 H a0)]).bind fun x2 =>
 k9 x2 (
 (A3 (strip a0)).bind fun x5 =>
 (b7 (.int .i64) .leq x5 (.int .i64 40)).bind fun x6 =>
 some (x6,H)) (
 some ((.bool false),H)):=(g9 vb _ _ _ rfl).trans (by kernel_rfl)
noncomputable def abz:List V->VH->Option (Option Nat × List V × VH):=D1 (vb.ctx cv l6) (vb.b.G7 35) (vb.C7 35) ⟨⟨[0,3],[],[]⟩,[(.exit 0,⟨[0],[],[]⟩),(.ret,⟨[2],[],[]⟩)]⟩ (D0 Tryz.f35 2)
theorem aeT (v0 v1:V) (H:VH):abz [v0,v1] H =
 (id (
 (A3 v0).bind fun x4 =>
 (b7 (.int .i64) .lss v1 x4).bind fun x5 =>
 k9 x5 (
 (b7 (.int .i64) .leq (strip v1) (.int .i64 200)).bind fun x8 =>
 j3 x8 (
 some (0,[(strip v0),(strip (strip v1))],H)) (
 some (1,[(strip v0)],H))) (
 some (1,[(strip v0)],H)):Option (Nat × List V × VH))).bind fun r11 =>
 C6 r11.1 [
 l4 2 r11.2.1 fun v12 =>
 (id (
 (A9 (v12 0) (v12 1)).bind fun x15 =>
 (b7 (.int .u8) .lss x15 (.int .u8 32)).bind fun x16 =>
 k9 x16 (
 some (0,[(.bool false)],r11.2.2)) (
 (A9 (strip (v12 0)) (strip (v12 1))).bind fun x22 =>
 (b7 (.int .u8) .gtr x22 (.int .u8 126)).bind fun x23 =>
 j3 x23 (
 some (0,[(.bool false)],r11.2.2)) (
 some (1,[(strip (strip (v12 0))),(strip (strip (v12 1)))],r11.2.2))):Option (Nat × List V × VH))).bind fun r26 =>
 C6 r26.1 [
 l4 1 r26.2.1 fun v27 =>
 some (some 1,[(v27 0)],r26.2.2),
 l4 2 r26.2.1 fun v28 =>
 (b7 (.int .i64) .add (v28 1) (.int .i64 1)).bind fun x30 =>
 some (none,[(v28 0),x30],r26.2.2)],
 l4 1 r11.2.1 fun v32 =>
 some (some 0,[(v32 0)],r11.2.2)]:=by kernel_rfl
theorem anc (a0:V) (H:VH):cv O6 [a0] H =
 (l6 abz [a0,(.int .i64 0)] H).bind fun r33 =>
 C6 r33.1 [
 l4 1 r33.2.1 fun v34 =>
 (A3 (v34 0)).bind fun x36 =>
 (b7 (.int .i64) .leq x36 (.int .i64 200)).bind fun x37 =>
 some (x37,r33.2.2),
 l4 1 r33.2.1 fun v39 =>
 some ((v39 0),r33.2.2)]:=(g9 vb _ _ _ rfl).trans (by kernel_rfl)
noncomputable def T4:List V->VH->Option (Option Nat × List V × VH):=D1 (vb.ctx cv l6) (vb.b.G7 210) (vb.C7 210) ⟨⟨[0,3,4],[],[]⟩,[(.exit 0,⟨[0],[],[]⟩),(.ret,⟨[2],[],[]⟩)]⟩ (D0 Tryz.f210 3)
theorem agi (v0 v1 v2:V) (H:VH):T4 [v0,v1,v2] H =
 (y3 (strip v1)).bind fun x7 =>
 (b7 (.int .i64) .lss v2 x7).bind fun x8 =>
 j3 x8 (
 (y8 1 (strip v1) (strip v2)).bind fun x11 =>
 (y5 l5 false false 1 x11 H).bind fun r13 =>
 (qc adS [(j4 r13.2 r13.1)]).bind fun x14 =>
 (C4 .not x14).bind fun x15 =>
 j3 x15 (
 some (some 1,[(.bool false)],r13.2)) (
 (b7 (.int .i64) .add (strip (strip v2)) (.int .i64 1)).bind fun x18 =>
 some (none,[v0,v1,x18],r13.2))) (
 some (some 0,[v0],H)):=by kernel_rfl
theorem apR (a0:V) (H:VH):cv ae8 [a0] H =
 (pc S8 [(j4 H a0),(j4 H (.int .u8 46))]).bind fun x2 =>
 (l6 T4 [(strip a0),(strip x2),(.int .i64 0)] H).bind fun r20 =>
 C6 r20.1 [
 l4 1 r20.2.1 fun v21 =>
 (A3 (v21 0)).bind fun x23 =>
 (b7 (.int .i64) .leq x23 (.int .i64 30)).bind fun x24 =>
 some (x24,r20.2.2),
 l4 1 r20.2.1 fun v26 =>
 some ((v26 0),r20.2.2)]:=(g9 vb _ _ _ rfl).trans (by kernel_rfl)
noncomputable def aiC:List V->VH->Option (Option Nat × List V × VH):=D1 (vb.ctx cv l6) (vb.b.G7 219) (vb.C7 219) ⟨⟨[0,1,5,6,7],[],[]⟩,[(.exit 0,⟨[0,5,6],[],[]⟩)]⟩ (D0 Tryz.f219 4)
theorem alG (v0 v1 v2 v3 v4:V) (H:VH):aiC [v0,v1,v2,v3,v4] H =
 (A3 v0).bind fun x7 =>
 (b7 (.int .i64) .lss v4 x7).bind fun x8 =>
 j3 x8 (
 (id (
 (A9 (strip v0) (strip v4)).bind fun x11 =>
 (b7 (.int .u8) .eql x11 v1).bind fun x13 =>
 j3 x13 (
 (C9 (strip (strip v0)) (some v3) (some (strip (strip v4)))).bind fun x18 =>
 (y7 x18).bind fun y20 =>
 (S6 v2).bind fun s22 =>
 (F8 false 1 16 s22 (.sl true [[y20]])).bind fun x21 =>
 (b7 (.int .i64) .add (strip (strip (strip v4))) (.int .i64 1)).bind fun x25 =>
 some (0,[(strip (strip (strip v0))),(strip v1),x21,x25,(strip (strip (strip (strip v4))))],H)) (
 some (0,[(strip (strip v0)),(strip v1),v2,v3,(strip (strip v4))],H)):Option (Nat × List V × VH))).bind fun r27 =>
 C6 r27.1 [
 l4 5 r27.2.1 fun v28 =>
 (b7 (.int .i64) .add (v28 4) (.int .i64 1)).bind fun x30 =>
 some (none,[(v28 0),(v28 1),(v28 2),(v28 3),x30],r27.2.2)]) (
 some (some 0,[(strip v0),v2,v3],H)):=by kernel_rfl
theorem apm (a0 a1:V) (H:VH):cv S8 [a0,a1] H =
 (l6 aiC [a0,a1,(.sl true []),(.int .i64 0),(.int .i64 0)] H).bind fun r32 =>
 C6 r32.1 [
 l4 3 r32.2.1 fun v33 =>
 (C9 (v33 0) (some (v33 2)) none).bind fun x37 =>
 (y7 x37).bind fun y39 =>
 (S6 (v33 1)).bind fun s41 =>
 (F8 false 1 16 s41 (.sl true [[y39]])).bind fun x40 =>
 some (x40,r32.2.2)]:=(g9 vb _ _ _ rfl).trans (by kernel_rfl)
noncomputable def abC:List V->VH->Option (Option Nat × List V × VH):=D1 (vb.ctx cv l6) (vb.b.G7 220) (vb.C7 220) ⟨⟨[0,3],[],[]⟩,[(.exit 0,⟨[0],[],[]⟩),(.ret,⟨[2],[],[]⟩)]⟩ (D0 Tryz.f220 2)
theorem aeU (v0 v1:V) (H:VH):abC [v0,v1] H =
 (id (
 (A3 v0).bind fun x4 =>
 (b7 (.int .i64) .lss v1 x4).bind fun x5 =>
 k9 x5 (
 (b7 (.int .i64) .leq (strip v1) (.int .i64 40)).bind fun x8 =>
 j3 x8 (
 some (0,[(strip v0),(strip (strip v1))],H)) (
 some (1,[(strip v0)],H))) (
 some (1,[(strip v0)],H)):Option (Nat × List V × VH))).bind fun r11 =>
 C6 r11.1 [
 l4 2 r11.2.1 fun v12 =>
 (A9 (v12 0) (v12 1)).bind fun x15 =>
 (qc afT [(j4 r11.2.2 x15)]).bind fun x16 =>
 (C4 .not x16).bind fun x17 =>
 j3 x17 (
 some (some 1,[(.bool false)],r11.2.2)) (
 (b7 (.int .i64) .add (strip (v12 1)) (.int .i64 1)).bind fun x20 =>
 some (none,[(strip (v12 0)),x20],r11.2.2)),
 l4 1 r11.2.1 fun v22 =>
 some (some 0,[(v22 0)],r11.2.2)]:=by kernel_rfl
theorem am8 (a0:V) (H:VH):cv adS [a0] H =
 (l6 abC [a0,(.int .i64 0)] H).bind fun r23 =>
 C6 r23.1 [
 l4 1 r23.2.1 fun v24 =>
 (A3 (v24 0)).bind fun x26 =>
 (b7 (.int .i64) .geq x26 (.int .i64 1)).bind fun x27 =>
 k9 x27 (
 (A3 (strip (v24 0))).bind fun x30 =>
 (b7 (.int .i64) .leq x30 (.int .i64 40)).bind fun x31 =>
 some (x31,r23.2.2)) (
 some ((.bool false),r23.2.2)),
 l4 1 r23.2.1 fun v36 =>
 some ((v36 0),r23.2.2)]:=(g9 vb _ _ _ rfl).trans (by kernel_rfl)
noncomputable def ads:List V->VH->Option (Option Nat × List V × VH):=D1 (vb.ctx cv l6) (vb.b.G7 224) (vb.C7 224) ⟨⟨[0,3],[],[]⟩,[(.exit 0,⟨[0],[],[]⟩),(.ret,⟨[2],[],[]⟩)]⟩ (D0 Tryz.f224 2)
theorem agS (v0 v1:V) (H:VH):ads [v0,v1] H =
 (b7 (.int .i64) .lss v1 (.int .i64 19)).bind fun x3 =>
 j3 x3 (
 (A9 (.str [33,35,36,37,38,39,42,43,45,47,61,63,94,95,96,123,124,125,126]) (strip v1)).bind fun x6 =>
 (b7 (.int .u8) .eql v0 x6).bind fun x7 =>
 j3 x7 (
 some (some 1,[(.bool true)],H)) (
 (b7 (.int .i64) .add (strip (strip v1)) (.int .i64 1)).bind fun x10 =>
 some (none,[(strip v0),x10],H))) (
 some (some 0,[v0],H)):=by kernel_rfl
theorem aqo (a0:V) (H:VH):cv afT [a0] H =
 (l6 ads [a0,(.int .i64 0)] H).bind fun r12 =>
 C6 r12.1 [
 l4 1 r12.2.1 fun v13 =>
 (qc acq [(j4 r12.2.2 (v13 0))]).bind fun x15 =>
 some (x15,r12.2.2),
 l4 1 r12.2.1 fun v17 =>
 some ((v17 0),r12.2.2)]:=(g9 vb _ _ _ rfl).trans (by kernel_rfl)
theorem aoD (a0:V) (H:VH):cv acq [a0] H =
 (b7 (.int .u8) .geq a0 (.int .u8 97)).bind fun x2 =>
 k9 x2 (
 (b7 (.int .u8) .leq (strip a0) (.int .u8 122)).bind fun x5 =>
 k9 x5 (
 some ((.bool true),H)) (
 (b7 (.int .u8) .geq (strip (strip a0)) (.int .u8 65)).bind fun x13 =>
 k9 x13 (
 (b7 (.int .u8) .leq (strip (strip (strip a0))) (.int .u8 90)).bind fun x16 =>
 k9 x16 (
 some ((.bool true),H)) (
 (b7 (.int .u8) .geq (strip (strip (strip (strip a0)))) (.int .u8 48)).bind fun x23 =>
 k9 x23 (
 (b7 (.int .u8) .leq (strip (strip (strip (strip (strip a0))))) (.int .u8 57)).bind fun x26 =>
 some (x26,H)) (
 some ((.bool false),H)))) (
 (b7 (.int .u8) .geq (strip (strip (strip a0))) (.int .u8 48)).bind fun x37 =>
 k9 x37 (
 (b7 (.int .u8) .leq (strip (strip (strip (strip a0)))) (.int .u8 57)).bind fun x40 =>
 some (x40,H)) (
 some ((.bool false),H))))) (
 (b7 (.int .u8) .geq (strip a0) (.int .u8 65)).bind fun x50 =>
 k9 x50 (
 (b7 (.int .u8) .leq (strip (strip a0)) (.int .u8 90)).bind fun x53 =>
 k9 x53 (
 some ((.bool true),H)) (
 (b7 (.int .u8) .geq (strip (strip (strip a0))) (.int .u8 48)).bind fun x60 =>
 k9 x60 (
 (b7 (.int .u8) .leq (strip (strip (strip (strip a0)))) (.int .u8 57)).bind fun x63 =>
 some (x63,H)) (
 some ((.bool false),H)))) (
 (b7 (.int .u8) .geq (strip (strip a0)) (.int .u8 48)).bind fun x74 =>
 k9 x74 (
 (b7 (.int .u8) .leq (strip (strip (strip a0))) (.int .u8 57)).bind fun x77 =>
 some (x77,H)) (
 some ((.bool false),H)))):=(g9 vb _ _ _ rfl).trans (by kernel_rfl)
noncomputable def ace:List V->VH->Option (Option Nat × List V × VH):=D1 (vb.ctx cv l6) (vb.b.G7 211) (vb.C7 211) ⟨⟨[0,3,4,5,6],[],[]⟩,[(.exit 2,⟨[0,3,4],[],[]⟩),(.ret,⟨[2],[],[]⟩)]⟩ (D0 Tryz.f211 9)
noncomputable def Q7:List V->VH->Option (Option Nat × List V × VH):=D1 (vb.ctx cv l6) (vb.b.G7 211) (vb.C7 211) ⟨⟨[0,3,4],[],[]⟩,[(.exit 0,⟨[0],[],[]⟩),(.ret,⟨[2],[],[]⟩)]⟩ (D0 Tryz.f211 3)
theorem afA (v0 v1 v2 v3 v4:V) (H:VH):ace [v0,v1,v2,v3,v4] H =
 (A3 v3).bind fun x43 =>
 (b7 (.int .i64) .lss v4 x43).bind fun x44 =>
 j3 x44 (
 (id (
 (A9 (strip v3) (strip v4)).bind fun x47 =>
 (qc acq [(j4 H x47)]).bind fun x48 =>
 (C4 .not x48).bind fun x49 =>
 k9 x49 (
 (A9 (strip (strip v3)) (strip (strip v4))).bind fun x53 =>
 (b7 (.int .u8) .neq x53 (.int .u8 45)).bind fun x54 =>
 k9 x54 (
 some (0,[(.bool false)],H)) (
 (A9 (strip (strip (strip v3))) (strip (strip (strip v4)))).bind fun x61 =>
 (b7 (.int .u8) .geq x61 (.int .u8 65)).bind fun x62 =>
 k9 x62 (
 (A9 (strip (strip (strip (strip v3)))) (strip (strip (strip (strip v4))))).bind fun x66 =>
 (b7 (.int .u8) .leq x66 (.int .u8 90)).bind fun x67 =>
 j3 x67 (
 some (0,[(.bool false)],H)) (
 some (1,[v0,v1,v2,(strip (strip (strip (strip (strip v3))))),(strip (strip (strip (strip (strip v4)))))],H))) (
 some (1,[v0,v1,v2,(strip (strip (strip (strip v3)))),(strip (strip (strip (strip v4))))],H)))) (
 (A9 (strip (strip v3)) (strip (strip v4))).bind fun x77 =>
 (b7 (.int .u8) .geq x77 (.int .u8 65)).bind fun x78 =>
 k9 x78 (
 (A9 (strip (strip (strip v3))) (strip (strip (strip v4)))).bind fun x82 =>
 (b7 (.int .u8) .leq x82 (.int .u8 90)).bind fun x83 =>
 j3 x83 (
 some (0,[(.bool false)],H)) (
 some (1,[v0,v1,v2,(strip (strip (strip (strip v3)))),(strip (strip (strip (strip v4))))],H))) (
 some (1,[v0,v1,v2,(strip (strip (strip v3))),(strip (strip (strip v4)))],H))):Option (Nat × List V × VH))).bind fun r89 =>
 C6 r89.1 [
 l4 1 r89.2.1 fun v90 =>
 some (some 1,[(v90 0)],r89.2.2),
 l4 5 r89.2.1 fun v91 =>
 (b7 (.int .i64) .add (v91 4) (.int .i64 1)).bind fun x93 =>
 some (none,[(v91 0),(v91 1),(v91 2),(v91 3),x93],r89.2.2)]) (
 some (some 0,[v0,v1,v2],H)):=by kernel_rfl
theorem afC (v0 v1 v2:V) (H:VH):Q7 [v0,v1,v2] H =
 (y3 (strip v1)).bind fun x7 =>
 (b7 (.int .i64) .lss v2 x7).bind fun x8 =>
 j3 x8 (
 (id (
 (y8 1 (strip v1) (strip v2)).bind fun x11 =>
 (y5 l5 false false 1 x11 H).bind fun r13 =>
 (id (
 (b7 .str .eql r13.1 (.str [])).bind fun x16 =>
 k9 x16 (
 some (0,[(.bool false)],r13.2)) (
 (A9 (strip r13.1) (.int .i64 0)).bind fun x23 =>
 (b7 (.int .u8) .eql x23 (.int .u8 45)).bind fun x24 =>
 k9 x24 (
 some (0,[(.bool false)],r13.2)) (
 (A3 (strip (strip (strip r13.1)))).bind fun x31 =>
 (b7 (.int .i64) .sub x31 (.int .i64 1)).bind fun x32 =>
 (A9 (strip (strip r13.1)) x32).bind fun x33 =>
 (b7 (.int .u8) .eql x33 (.int .u8 45)).bind fun x34 =>
 j3 x34 (
 some (0,[(.bool false)],r13.2)) (
 some (1,[v0,v1,(strip (strip v2)),(strip (strip (strip (strip r13.1))))],r13.2)))):Option (Nat × List V × VH))).bind fun r37 =>
 C6 r37.1 [
 l4 1 r37.2.1 fun v38 =>
 some (0,[(v38 0)],r37.2.2),
 l4 4 r37.2.1 fun v39 =>
 (l6 ace [(v39 0),(v39 1),(v39 2),(v39 3),(.int .i64 0)] r37.2.2).bind fun r95 =>
 C6 r95.1 [
 l4 3 r95.2.1 fun v96 =>
 some (1,[(v96 0),(v96 1),(v96 2)],r95.2.2),
 l4 1 r95.2.1 fun v97 =>
 some (0,[(v97 0)],r95.2.2)]]:Option (Nat × List V × VH))).bind fun r98 =>
 C6 r98.1 [
 l4 1 r98.2.1 fun v99 =>
 some (some 1,[(v99 0)],r98.2.2),
 l4 3 r98.2.1 fun v100 =>
 (b7 (.int .i64) .add (v100 2) (.int .i64 1)).bind fun x102 =>
 some (none,[(v100 0),(v100 1),x102],r98.2.2)]) (
 some (some 0,[v0],H)):=by kernel_rfl
theorem an1 (a0:V) (H:VH):cv aep [a0] H =
 (pc S8 [(j4 H a0),(j4 H (.int .u8 46))]).bind fun x2 =>
 (l6 Q7 [(strip a0),(strip x2),(.int .i64 0)] H).bind fun r104 =>
 C6 r104.1 [
 l4 1 r104.2.1 fun v105 =>
 (A3 (v105 0)).bind fun x107 =>
 (b7 (.int .i64) .leq x107 (.int .i64 40)).bind fun x108 =>
 some (x108,r104.2.2),
 l4 1 r104.2.1 fun v110 =>
 some ((v110 0),r104.2.2)]:=(g9 vb _ _ _ rfl).trans (by kernel_rfl)
noncomputable def acS:List V->VH->Option (Option Nat × List V × VH):=D1 (vb.ctx cv l6) (vb.b.G7 12) (vb.C7 12) ⟨⟨[0,1,5],[],[]⟩,[(.exit 0,⟨[],[],[]⟩),(.ret,⟨[4],[],[]⟩)]⟩ (D0 Tryz.f12 4)
theorem agl (v0 v1 v2:V) (H:VH):acS [v0,v1,v2] H =
 (y3 (strip v0)).bind fun x10 =>
 (b7 (.int .i64) .lss v2 x10).bind fun x11 =>
 j3 x11 (
 (y8 1 (strip v0) (strip v2)).bind fun x14 =>
 (y5 l5 false false 1 x14 H).bind fun r16 =>
 (y8 1 (strip v1) (strip (strip v2))).bind fun x19 =>
 (y5 l5 false false 1 x19 r16.2).bind fun r21 =>
 (b7 .str .neq r16.1 r21.1).bind fun x22 =>
 j3 x22 (
 some (some 1,[(.bool false)],r21.2)) (
 (b7 (.int .i64) .add (strip (strip (strip v2))) (.int .i64 1)).bind fun x25 =>
 some (none,[v0,v1,x25],r21.2))) (
 some (some 0,[],H)):=by kernel_rfl
theorem apy (a0 a1:V) (H:VH):cv Y6 [a0,a1] H =
 (y3 (strip a0)).bind fun x2 =>
 (y3 (strip a1)).bind fun x4 =>
 (b7 (.int .i64) .neq x2 x4).bind fun x5 =>
 j3 x5 (
 some ((.bool false),H)) (
 (l6 acS [a0,a1,(.int .i64 0)] H).bind fun r27 =>
 C6 r27.1 [
 l4 0 r27.2.1 fun v28 =>
 some ((.bool true),r27.2.2),
 l4 1 r27.2.1 fun v30 =>
 some ((v30 0),r27.2.2)]):=(g9 vb _ _ _ rfl).trans (by kernel_rfl)
theorem am1 (a0:V) (H:VH):cv adQ [a0] H =
 (C5 3 a0).bind fun c1 =>
 (qc O9 [(j4 H (.agg [(strip (c1.getD 0 .g8)),(strip (c1.getD 1 .g8)),(strip (c1.getD 2 .g8))]))]).bind fun x5 =>
 (C4 .not x5).bind fun x6 =>
 j3 x6 (
 some ((.n9 [(.int .i64 0),(.bool false)]),H)) (
 (qc ac3 [(j4 H (.agg [(strip (c1.getD 0 .g8)),(strip (c1.getD 1 .g8)),(strip (c1.getD 2 .g8))]))]).bind fun x10 =>
 some ((.n9 [x10,(.bool true)]),H)):=(g9 vb _ _ _ rfl).trans (by kernel_rfl)
noncomputable def alY:List V->VH->Option (Option Nat × List V × VH):=D1 (vb.ctx cv l6) (vb.b.G7 36) (vb.C7 36) ⟨⟨[3,7,8,9],[],[]⟩,[(.exit 0,⟨[3],[],[]⟩)]⟩ (D0 Tryz.f36 3)
theorem apV (v0 v1 v2 v3:V) (H:VH):alY [v0,v1,v2,v3] H =
 (b7 (.int .i64) .lss v3 v2).bind fun x8 =>
 j3 x8 (
 (y8 1 v1 v3).bind fun x9 =>
 (y5 l5 false false 1 x9 H).bind fun r11 =>
 (b7 .str .eql r11.1 (.str [])).bind fun x14 =>
 j3 x14 (
 some (some 0,[v0],r11.2)) (
 (qc J8 [(j4 r11.2 (strip r11.1))]).bind fun x16 =>
 (qc T2 [(j4 r11.2 x16),(j4 r11.2 (.str [114,101,99,101,105,118,101,100,58]))]).bind fun x17 =>
 j3 x17 (
 (b7 (.int .i64) .add v0 (.int .i64 1)).bind fun x19 =>
 (b7 (.int .i64) .add v3 (.int .i64 1)).bind fun x21 =>
 some (none,[x19,v1,v2,x21],r11.2)) (
 (b7 (.int .i64) .add v3 (.int .i64 1)).bind fun x23 =>
 some (none,[v0,v1,v2,x23],r11.2)))) (
 some (some 0,[v0],H)):=by kernel_rfl
theorem atY (a0:V) (H:VH):cv ac3 [a0] H =
 (C5 3 a0).bind fun c1 =>
 (y3 (strip (c1.getD 2 .g8))).bind fun x6 =>
 (l6 alY [(.int .i64 0),(strip (c1.getD 2 .g8)),x6,(.int .i64 0)] H).bind fun r25 =>
 C6 r25.1 [
 l4 1 r25.2.1 fun v26 =>
 some ((v26 0),r25.2.2)]:=(g9 vb _ _ _ rfl).trans (by kernel_rfl)
noncomputable def agK:List V->VH->Option (Option Nat × List V × VH):=D1 (vb.ctx cv l6) (vb.b.G7 63) (vb.C7 63) ⟨⟨[3,8,9,10],[],[]⟩,[(.exit 0,⟨[3],[],[]⟩)]⟩ (D0 Tryz.f63 3)
theorem ajT (v0 v1 v2 v3:V) (H:VH):agK [v0,v1,v2,v3] H =
 (b7 (.int .i64) .lss v3 v2).bind fun x7 =>
 j3 x7 (
 (y8 1 v1 (strip v3)).bind fun x9 =>
 (y5 l5 false false 1 x9 H).bind fun r11 =>
 (b7 (.int .u8) .geq r11.1 (.int .u8 65)).bind fun x15 =>
 k9 x15 (
 (b7 (.int .u8) .leq (strip r11.1) (.int .u8 90)).bind fun x18 =>
 j3 x18 (
 (y8 1 (strip v0) v3).bind fun x22 =>
 (y5 l5 false false 1 x22 r11.2).bind fun r24 =>
 (b7 (.int .u8) .add r24.1 (.int .u8 32)).bind fun x25 =>
 (y8 1 (strip v0) v3).bind fun x26 =>
 (y7 x25).bind fun y28 =>
 (E1 x26 [y28] r24.2).bind fun H29 =>
 (b7 (.int .i64) .add (strip v3) (.int .i64 1)).bind fun x30 =>
 some (none,[v0,v1,v2,x30],H29)) (
 (b7 (.int .i64) .add (strip v3) (.int .i64 1)).bind fun x32 =>
 some (none,[v0,v1,v2,x32],r11.2))) (
 (b7 (.int .i64) .add (strip v3) (.int .i64 1)).bind fun x35 =>
 some (none,[v0,v1,v2,x35],r11.2))) (
 some (some 0,[v0],H)):=by kernel_rfl
theorem amU (a0:V) (H:VH):cv J8 [a0] H =
 (asP a0).bind fun x2 =>
 (y3 (.y1 H.length 0 x2.length 1)).bind fun x5 =>
 (l6 agK [(.y1 H.length 0 x2.length 1),(.y1 H.length 0 x2.length 1),x5,(.int .i64 0)] (H++[x2])).bind fun r37 =>
 C6 r37.1 [
 l4 1 r37.2.1 fun v38 =>
 (aiO (strip (v38 0)) r37.2.2).bind fun x40 =>
 some (x40,r37.2.2)]:=(g9 vb _ _ _ rfl).trans (by kernel_rfl)
noncomputable def agZ:List V->VH->Option (Option Nat × List V × VH):=D1 (vb.ctx cv l6) (vb.b.G7 8) (vb.C7 8) ⟨⟨[3,4,12,13,14],[],[]⟩,[(.exit 0,⟨[4],[],[]⟩),(.ret,⟨[2],[],[]⟩)]⟩ (D0 Tryz.f8 5)
theorem aj9 (v0 v1 v2 v3 v4:V) (H:VH):agZ [v0,v1,v2,v3,v4] H =
 (b7 (.int .i64) .lss v4 v3).bind fun x15 =>
 j3 x15 (
 (y8 1 v2 (strip v4)).bind fun x17 =>
 (y5 l5 false false 1 x17 H).bind fun r19 =>
 (b7 .str .eql r19.1 (.str [])).bind fun x23 =>
 j3 x23 (
 (b7 (.int .i64) .add (strip v4) (.int .i64 1)).bind fun x24 =>
 some (none,[v0,v1,v2,v3,x24],r19.2)) (
 (id (
 (b7 (.int .i64) .geq v4 (.int .i64 200)).bind fun x27 =>
 k9 x27 (
 (b7 .str .add v1 (.str [102,117,108,108,10])).bind fun x31 =>
 some (0,[x31],r19.2)) (
 (A3 v1).bind fun x34 =>
 (b7 (.int .i64) .gtr x34 (.int .i64 40000)).bind fun x35 =>
 j3 x35 (
 (b7 .str .add (strip v1) (.str [102,117,108,108,10])).bind fun x38 =>
 some (0,[x38],r19.2)) (
 some (1,[v0,(strip v1),(strip r19.1),v2,v3,(strip v4)],r19.2))):Option (Nat × List V × VH))).bind fun r40 =>
 C6 r40.1 [
 l4 1 r40.2.1 fun v41 =>
 some (some 1,[(v41 0)],r40.2.2),
 l4 6 r40.2.1 fun v42 =>
 (cv O4 [(strip (v42 0)),(strip (v42 2))] r40.2.2).bind fun r46 =>
 (b7 .str .add (v42 1) r46.1).bind fun x47 =>
 (b7 (.int .i64) .add (v42 5) (.int .i64 1)).bind fun x49 =>
 some (none,[(v42 0),x47,(v42 3),(v42 4),x49],r46.2)])) (
 some (some 0,[v1],H)):=by kernel_rfl
theorem am7 (a0:V) (H:VH):cv Z4 [a0] H =
 (A3 a0).bind fun x2 =>
 (b7 (.int .i64) .gtr x2 (.int .i64 20000)).bind fun x3 =>
 j3 x3 (
 some ((.str [108,111,110,103,10]),H)) (
 (pc acP []).bind fun x5 =>
 (C5 14 x5).bind fun c8 =>
 (E1 (.ptr H.length 0) [(c8.getD 0 .g8),(c8.getD 1 .g8),(c8.getD 2 .g8),(c8.getD 3 .g8),(c8.getD 4 .g8),(c8.getD 5 .g8),(c8.getD 6 .g8),(c8.getD 7 .g8),(c8.getD 8 .g8),(c8.getD 9 .g8),(c8.getD 10 .g8),(c8.getD 11 .g8),(c8.getD 12 .g8),(c8.getD 13 .g8)] (H++[[(.sl true []),(.int .i64 0),(.str []),(.str []),(.sl true []),(.sl true []),(.sl true []),(.int .i64 0),(.int .i64 0),(.int .i64 0),(.int .i64 0),(.int .i64 0),(.int .i64 0),(.int .i64 0)]])).bind fun H9 =>
 (pc V3 [(j4 H9 (strip a0)),(j4 H9 (.str [10]))]).bind fun x12 =>
 (y3 x12).bind fun x13 =>
 (l6 agZ [(.ptr H.length 0),(.str []),x12,x13,(.int .i64 0)] H9).bind fun r51 =>
 C6 r51.1 [
 l4 1 r51.2.1 fun v52 =>
 some ((v52 0),r51.2.2),
 l4 1 r51.2.1 fun v55 =>
 some ((v55 0),r51.2.2)]):=(g9 vb _ _ _ rfl).trans (by kernel_rfl)
theorem apa (H:VH):cv acP [] H =
 (pc adD [(j4 H (.int .i64 1767593289)),(j4 H (.int .i64 60))]).bind fun x1 =>
 (z7 x1 0).bind fun x3 =>
 (z7 x1 1).bind fun x4 =>
 (C5 7 (strip x3)).bind fun c7 =>
 some ((.agg [(.sl true []),(.int .i64 0),(.str []),(.str []),(.sl true []),(.sl true []),(.sl true []),(strip (c7.getD 0 .g8)),(strip (c7.getD 1 .g8)),(strip (c7.getD 2 .g8)),(strip (c7.getD 3 .g8)),(strip (c7.getD 4 .g8)),(strip (c7.getD 5 .g8)),(strip (c7.getD 6 .g8))]),H):=(g9 vb _ _ _ rfl).trans (by kernel_rfl)
noncomputable def ajn:List V->VH->Option (Option Nat × List V × VH):=D1 (vb.ctx cv l6) (vb.b.G7 46) (vb.C7 46) ⟨⟨[7],[(4,(4,0)),(9,(9,0))],[(4,7),(9,7)]⟩,[(.exit 0,⟨[7],[(4,(4,0)),(9,(9,0))],[(4,7),(9,7)]⟩)]⟩ (D0 Tryz.f46 8)
theorem am6 (v0 v1 v2 v3 v4 v5 v6 v7 v8 v9 v10 v11 v12 v13 v14:V) (H:VH):ajn [v0,v1,v2,v3,v4,v5,v6,v7,v8,v9,v10,v11,v12,v13,v14] H =
 (id (
 (b7 (.int .i64) .leq (strip v8) (.int .i64 2099)).bind fun x53 =>
 k9 x53 (
 (qc aav [(j4 H (strip v8)),(j4 H (strip v9))]).bind fun x60 =>
 (b7 (.int .i64) .geq v0 x60).bind fun x61 =>
 j3 x61 (
 some (0,[(strip v0),v1,v2,v3,v4,v5,v6,v7,v8,v9,v10,v11,v12,v13,v14],H)) (
 some (1,[(strip v0),v1,v2,v3,v4,v5,v6,v7,v8,v9,v10,v11,v12,v13,v14],H))) (
 some (1,[v0,v1,v2,v3,v4,v5,v6,v7,v8,v9,v10,v11,v12,v13,v14],H)):Option (Nat × List V × VH))).bind fun r64 =>
 C6 r64.1 [
 l4 15 r64.2.1 fun v65 =>
 (qc aav [(j4 r64.2.2 (strip (v65 8))),(j4 r64.2.2 (strip (v65 9)))]).bind fun x71 =>
 (b7 (.int .i64) .sub (v65 0) x71).bind fun x72 =>
 (b7 (.int .i64) .add (strip (v65 9)) (.int .i64 1)).bind fun x76 =>
 (y7 x76).bind fun y79 =>
 (b7 (.int .i64) .gtr (strip y79) (.int .i64 12)).bind fun x82 =>
 j3 x82 (
 (b7 (.int .i64) .add (strip (v65 8)) (.int .i64 1)).bind fun x85 =>
 (y7 x85).bind fun y88 =>
 some (none,[x72,(v65 1),(v65 2),(v65 3),(v65 4),(v65 5),(v65 6),(v65 7),y88,(.int .i64 1),(v65 10),(v65 11),(v65 12),(v65 13),(v65 14)],r64.2.2)) (
 some (none,[x72,(v65 1),(v65 2),(v65 3),(v65 4),(v65 5),(v65 6),(v65 7),(v65 8),y79,(v65 10),(v65 11),(v65 12),(v65 13),(v65 14)],r64.2.2)),
 l4 15 r64.2.1 fun v91 =>
 some (some 0,[(v91 0),(v91 1),(v91 2),(v91 3),(v91 4),(v91 5),(v91 6),(v91 7),(v91 8),(v91 9),(v91 10),(v91 11),(v91 12),(v91 13),(v91 14)],r64.2.2)]:=by kernel_rfl
theorem aqy (a0 a1:V) (H:VH):cv adD [a0,a1] H =
 (id (
 (qc M6 [(j4 H a0),(j4 H (.int .i64 0)),(j4 H (.int .i64 4102444799))]).bind fun x3 =>
 (C4 .not x3).bind fun x4 =>
 k9 x4 (
 some (0,[(.bool false),(.int .i64 0),(.int .i64 0),(.int .i64 0),(.int .i64 0),(.int .i64 0),(.int .i64 0),(.int .i64 0)],H)) (
 (qc adJ [(j4 H a1)]).bind fun x11 =>
 (C4 .not x11).bind fun x12 =>
 j3 x12 (
 some (0,[(.bool false),(.int .i64 0),(.int .i64 0),(.int .i64 0),(.int .i64 0),(.int .i64 0),(.int .i64 0),(.int .i64 0)],H)) (
 some (1,[(strip a0),(strip a1),(.int .i64 0),(.int .i64 0),(.int .i64 0),(.int .i64 0),(.int .i64 0),(.int .i64 0),(.int .i64 0)],H))):Option (Nat × List V × VH))).bind fun r17 =>
 C6 r17.1 [
 l4 8 r17.2.1 fun v18 =>
 some ((.n9 [(.agg [(v18 1),(v18 2),(v18 3),(v18 4),(v18 5),(v18 6),(v18 7)]),(v18 0)]),r17.2.2),
 l4 9 r17.2.1 fun v19 =>
 (b7 (.int .i64) .mul (v19 1) (.int .i64 60)).bind fun x22 =>
 (b7 (.int .i64) .add (v19 0) x22).bind fun x23 =>
 (b7 (.int .i64) .lss x23 (.int .i64 0)).bind fun x26 =>
 j3 x26 (
 some ((.n9 [(.agg [(.int .i64 0),(.int .i64 0),(.int .i64 0),(.int .i64 0),(.int .i64 0),(.int .i64 0),(.int .i64 0)]),(.bool false)]),r17.2.2)) (
 (b7 (.int .i64) .quo (strip x23) (.int .i64 86400)).bind fun x31 =>
 (b7 (.int .i64) .rem (strip (strip x23)) (.int .i64 86400)).bind fun x33 =>
 (b7 (.int .i64) .quo x33 (.int .i64 3600)).bind fun x37 =>
 (b7 (.int .i64) .quo (strip x33) (.int .i64 60)).bind fun x39 =>
 (b7 (.int .i64) .rem x39 (.int .i64 60)).bind fun x40 =>
 (b7 (.int .i64) .rem (strip (strip x33)) (.int .i64 60)).bind fun x42 =>
 (y7 x37).bind fun y45 =>
 (y7 x40).bind fun y46 =>
 (y7 x42).bind fun y47 =>
 (y7 (strip (v19 1))).bind fun y48 =>
 (l6 ajn [x31,(v19 2),(v19 3),(v19 4),(v19 5),(v19 6),(v19 7),(v19 8),(.int .i64 1970),(.int .i64 1),(.int .i64 0),y45,y46,y47,y48] r17.2.2).bind fun r92 =>
 C6 r92.1 [
 l4 15 r92.2.1 fun v93 =>
 (b7 (.int .i64) .add (v93 0) (.int .i64 1)).bind fun x95 =>
 (y7 x95).bind fun y98 =>
 (qc O8 [(j4 r92.2.2 (.agg [(strip (v93 8)),(strip (v93 9)),(strip y98),(strip (v93 11)),(strip (v93 12)),(strip (v93 13)),(strip (v93 14))]))]).bind fun x100 =>
 (C4 .not x100).bind fun x101 =>
 j3 x101 (
 some ((.n9 [(.agg [(.int .i64 0),(.int .i64 0),(.int .i64 0),(.int .i64 0),(.int .i64 0),(.int .i64 0),(.int .i64 0)]),(.bool false)]),r92.2.2)) (
 some ((.n9 [(.agg [(strip (v93 8)),(strip (v93 9)),(strip y98),(strip (v93 11)),(strip (v93 12)),(strip (v93 13)),(strip (v93 14))]),(.bool true)]),r92.2.2))])]:=(g9 vb _ _ _ rfl).trans (by kernel_rfl)
theorem aqe (a0 a1 a2:V) (H:VH):cv M6 [a0,a1,a2] H =
 (b7 (.int .i64) .geq a0 a1).bind fun x3 =>
 k9 x3 (
 (b7 (.int .i64) .leq (strip a0) a2).bind fun x7 =>
 some (x7,H)) (
 some ((.bool false),H)):=(g9 vb _ _ _ rfl).trans (by kernel_rfl)
theorem aqz (a0:V) (H:VH):cv adJ [a0] H =
 (qc M6 [(j4 H a0),(j4 H (.int .i64 (-720))),(j4 H (.int .i64 840))]).bind fun x2 =>
 some (x2,H):=(g9 vb _ _ _ rfl).trans (by kernel_rfl)
theorem aqJ (a0 a1:V) (H:VH):cv aav [a0,a1] H =
 (id (
 (b7 (.int .i64) .lss a0 (.int .i64 1970)).bind fun x2 =>
 k9 x2 (
 some (0,[(.int .i64 0)],H)) (
 (b7 (.int .i64) .gtr (strip a0) (.int .i64 2099)).bind fun x7 =>
 j3 x7 (
 some (0,[(.int .i64 0)],H)) (
 some (1,[(strip (strip a0)),a1],H))):Option (Nat × List V × VH))).bind fun r10 =>
 C6 r10.1 [
 l4 1 r10.2.1 fun v11 =>
 some ((v11 0),r10.2.2),
 l4 2 r10.2.1 fun v12 =>
 (id (
 (b7 (.int .i64) .eql (v12 1) (.int .i64 1)).bind fun x14 =>
 j3 x14 (
 some (0,[(v12 0),(v12 1),x14],r10.2.2)) (
 (b7 (.int .i64) .eql (v12 1) (.int .i64 3)).bind fun x16 =>
 j3 x16 (
 some (0,[(v12 0),(v12 1),x16],r10.2.2)) (
 (b7 (.int .i64) .eql (v12 1) (.int .i64 5)).bind fun x18 =>
 j3 x18 (
 some (0,[(v12 0),(v12 1),x18],r10.2.2)) (
 (b7 (.int .i64) .eql (v12 1) (.int .i64 7)).bind fun x20 =>
 j3 x20 (
 some (0,[(v12 0),(v12 1),x20],r10.2.2)) (
 (b7 (.int .i64) .eql (v12 1) (.int .i64 8)).bind fun x22 =>
 j3 x22 (
 some (0,[(v12 0),(v12 1),x22],r10.2.2)) (
 (b7 (.int .i64) .eql (v12 1) (.int .i64 10)).bind fun x24 =>
 j3 x24 (
 some (0,[(v12 0),(v12 1),x24],r10.2.2)) (
 (b7 (.int .i64) .eql (v12 1) (.int .i64 12)).bind fun x26 =>
 some (0,[(v12 0),(v12 1),x26],r10.2.2))))))):Option (Nat × List V × VH))).bind fun r28 =>
 C6 r28.1 [
 l4 3 r28.2.1 fun v29 =>
 j3 (v29 2) (
 some ((.int .i64 31),r28.2.2)) (
 (id (
 (b7 (.int .i64) .eql (v29 1) (.int .i64 4)).bind fun x31 =>
 j3 x31 (
 some (0,[(v29 0),(v29 1),x31],r28.2.2)) (
 (b7 (.int .i64) .eql (v29 1) (.int .i64 6)).bind fun x33 =>
 j3 x33 (
 some (0,[(v29 0),(v29 1),x33],r28.2.2)) (
 (b7 (.int .i64) .eql (v29 1) (.int .i64 9)).bind fun x35 =>
 j3 x35 (
 some (0,[(v29 0),(v29 1),x35],r28.2.2)) (
 (b7 (.int .i64) .eql (v29 1) (.int .i64 11)).bind fun x37 =>
 some (0,[(v29 0),(v29 1),x37],r28.2.2)))):Option (Nat × List V × VH))).bind fun r39 =>
 C6 r39.1 [
 l4 3 r39.2.1 fun v40 =>
 j3 (v40 2) (
 some ((.int .i64 30),r39.2.2)) (
 (b7 (.int .i64) .eql (v40 1) (.int .i64 2)).bind fun x42 =>
 j3 x42 (
 (b7 (.int .i64) .rem (v40 0) (.int .i64 4)).bind fun x45 =>
 (b7 (.int .i64) .eql x45 (.int .i64 0)).bind fun x46 =>
 k9 x46 (
 (b7 (.int .i64) .rem (strip (v40 0)) (.int .i64 100)).bind fun x49 =>
 (b7 (.int .i64) .neq x49 (.int .i64 0)).bind fun x50 =>
 k9 x50 (
 some ((.int .i64 29),r39.2.2)) (
 (b7 (.int .i64) .rem (strip (strip (v40 0))) (.int .i64 400)).bind fun x56 =>
 (b7 (.int .i64) .eql x56 (.int .i64 0)).bind fun x57 =>
 j3 x57 (
 some ((.int .i64 29),r39.2.2)) (
 some ((.int .i64 28),r39.2.2)))) (
 (b7 (.int .i64) .rem (strip (v40 0)) (.int .i64 400)).bind fun x64 =>
 (b7 (.int .i64) .eql x64 (.int .i64 0)).bind fun x65 =>
 j3 x65 (
 some ((.int .i64 29),r39.2.2)) (
 some ((.int .i64 28),r39.2.2)))) (
 some ((.int .i64 0),r39.2.2)))])]]:=(g9 vb _ _ _ rfl).trans (by kernel_rfl)
theorem anh (a0:V) (H:VH):cv O8 [a0] H =
 (C5 7 a0).bind fun c1 =>
 (qc aav [(j4 H (strip (c1.getD 0 .g8))),(j4 H (strip (c1.getD 1 .g8)))]).bind fun x9 =>
 (qc M6 [(j4 H (strip (c1.getD 2 .g8))),(j4 H (.int .i64 1)),(j4 H x9)]).bind fun x10 =>
 k9 x10 (
 (qc M6 [(j4 H (strip (c1.getD 3 .g8))),(j4 H (.int .i64 0)),(j4 H (.int .i64 23))]).bind fun x14 =>
 k9 x14 (
 (qc M6 [(j4 H (strip (c1.getD 4 .g8))),(j4 H (.int .i64 0)),(j4 H (.int .i64 59))]).bind fun x19 =>
 k9 x19 (
 (qc M6 [(j4 H (strip (c1.getD 5 .g8))),(j4 H (.int .i64 0)),(j4 H (.int .i64 59))]).bind fun x24 =>
 k9 x24 (
 (qc adJ [(j4 H (strip (c1.getD 6 .g8)))]).bind fun x29 =>
 k9 x29 (
 (qc ach [(j4 H (.agg [(strip (c1.getD 0 .g8)),(strip (c1.getD 1 .g8)),(strip (c1.getD 2 .g8)),(strip (c1.getD 3 .g8)),(strip (c1.getD 4 .g8)),(strip (c1.getD 5 .g8)),(strip (c1.getD 6 .g8))]))]).bind fun x33 =>
 (qc M6 [(j4 H x33),(j4 H (.int .i64 0)),(j4 H (.int .i64 4102444799))]).bind fun x34 =>
 some (x34,H)) (
 some ((.bool false),H))) (
 some ((.bool false),H))) (
 some ((.bool false),H))) (
 some ((.bool false),H))) (
 some ((.bool false),H)):=(g9 vb _ _ _ rfl).trans (by kernel_rfl)
theorem aki (a0:V) (H:VH):cv ach [a0] H =
 (C5 7 a0).bind fun c1 =>
 (qc X6 [(j4 H (strip (c1.getD 0 .g8))),(j4 H (strip (c1.getD 1 .g8))),(j4 H (strip (c1.getD 2 .g8)))]).bind fun x9 =>
 (b7 (.int .i64) .mul x9 (.int .i64 86400)).bind fun x10 =>
 (b7 (.int .i64) .mul (strip (c1.getD 3 .g8)) (.int .i64 3600)).bind fun x13 =>
 (b7 (.int .i64) .add x10 x13).bind fun x14 =>
 (b7 (.int .i64) .mul (strip (c1.getD 4 .g8)) (.int .i64 60)).bind fun x17 =>
 (b7 (.int .i64) .add x14 x17).bind fun x18 =>
 (b7 (.int .i64) .add x18 (strip (c1.getD 5 .g8))).bind fun x21 =>
 (b7 (.int .i64) .mul (strip (c1.getD 6 .g8)) (.int .i64 60)).bind fun x24 =>
 (b7 (.int .i64) .sub x21 x24).bind fun x25 =>
 some (x25,H):=(g9 vb _ _ _ rfl).trans (by kernel_rfl)
noncomputable def adi:List V->VH->Option (Option Nat × List V × VH):=D1 (vb.ctx cv l6) (vb.b.G7 43) (vb.C7 43) ⟨⟨[0,1,7,8,9],[],[]⟩,[(.exit 2,⟨[0,1,7,8],[],[]⟩)]⟩ (D0 Tryz.f43 6)
noncomputable def af4:List V->VH->Option (Option Nat × List V × VH):=D1 (vb.ctx cv l6) (vb.b.G7 43) (vb.C7 43) ⟨⟨[0,1,7,8],[],[]⟩,[(.exit 0,⟨[7],[],[]⟩)]⟩ (D0 Tryz.f43 3)
theorem ai3 (v0 v1 v2 v3 v4:V) (H:VH):adi [v0,v1,v2,v3,v4] H =
 (id (
 (b7 (.int .i64) .leq v4 (.int .i64 12)).bind fun x10 =>
 k9 x10 (
 (b7 (.int .i64) .lss v3 v0).bind fun x14 =>
 k9 x14 (
 some (0,[(strip v0),v1,v2,(strip v3),(strip v4)],H)) (
 (b7 (.int .i64) .lss (strip v4) v1).bind fun x20 =>
 j3 x20 (
 some (0,[(strip v0),(strip v1),v2,(strip v3),(strip (strip v4))],H)) (
 some (1,[(strip v0),(strip v1),v2,(strip v3)],H)))) (
 some (1,[v0,v1,v2,v3],H)):Option (Nat × List V × VH))).bind fun r24 =>
 C6 r24.1 [
 l4 5 r24.2.1 fun v25 =>
 (qc aav [(j4 r24.2.2 (v25 3)),(j4 r24.2.2 (v25 4))]).bind fun x29 =>
 (b7 (.int .i64) .add (v25 2) x29).bind fun x30 =>
 (b7 (.int .i64) .add (strip (v25 4)) (.int .i64 1)).bind fun x33 =>
 some (none,[(v25 0),(v25 1),x30,(strip (v25 3)),x33],r24.2.2),
 l4 4 r24.2.1 fun v35 =>
 some (some 0,[(v35 0),(v35 1),(v35 2),(v35 3)],r24.2.2)]:=by kernel_rfl
theorem ajg (v0 v1 v2 v3:V) (H:VH):af4 [v0,v1,v2,v3] H =
 (b7 (.int .i64) .leq v3 v0).bind fun x7 =>
 j3 x7 (
 (l6 adi [(strip v0),v1,v2,(strip v3),(.int .i64 1)] H).bind fun r36 =>
 C6 r36.1 [
 l4 4 r36.2.1 fun v37 =>
 (b7 (.int .i64) .add (v37 3) (.int .i64 1)).bind fun x39 =>
 some (none,[(v37 0),(v37 1),(v37 2),x39],r36.2.2)]) (
 some (some 0,[v2],H)):=by kernel_rfl
theorem ak8 (a0 a1 a2:V) (H:VH):cv X6 [a0,a1,a2] H =
 (b7 (.int .i64) .sub a2 (.int .i64 1)).bind fun x2 =>
 (l6 af4 [a0,a1,x2,(.int .i64 1970)] H).bind fun r41 =>
 C6 r41.1 [
 l4 1 r41.2.1 fun v42 =>
 some ((v42 0),r41.2.2)]:=(g9 vb _ _ _ rfl).trans (by kernel_rfl)
theorem abB (a0 a1:V) (H:VH):cv O4 [a0,a1] H =
 (qc aau [(j4 H a1),(j4 H (.str [32]))]).bind fun x2 =>
 (z7 x2 0).bind fun x4 =>
 (z7 x2 1).bind fun x5 =>
 (z7 x2 2).bind fun x6 =>
 (C4 .not (strip x6)).bind fun x11 =>
 j3 x11 (
 (cv aeP [(strip a0),(strip (strip x4))] H).bind fun r15 =>
 some (r15.1,r15.2)) (
 (b7 .str .eql (strip x4) (.str [115,97,121])).bind fun x18 =>
 j3 x18 (
 (cv aac [(strip a0),(strip (strip x5))] H).bind fun r23 =>
 some (r23.1,r23.2)) (
 (b7 .str .eql (strip x4) (.str [98,111,120])).bind fun x25 =>
 j3 x25 (
 (B9 a0).bind fun x28 =>
 (y2 x28 0).bind fun x29 =>
 (y5 l5 false false 1 x29 H).bind fun r31 =>
 (pc abU [(j4 r31.2 r31.1),(j4 r31.2 (strip x5))]).bind fun x33 =>
 (z7 x33 0).bind fun x35 =>
 (z7 (X9 0 x33) 1).bind fun x36 =>
 (C4 .not (strip x36)).bind fun x40 =>
 j3 x40 (
 some ((.str [119,104,97,116,10]),r31.2)) (
 (B9 (strip a0)).bind fun x44 =>
 (y2 x44 0).bind fun x45 =>
 (y7 x35).bind fun y47 =>
 (E1 x45 [y47] r31.2).bind fun H48 =>
 some ((.str [111,107,10]),H48))) (
 (b7 .str .eql (strip x4) (.str [116,97,107,101])).bind fun x50 =>
 j3 x50 (
 (cv aaa [(strip a0),(strip (strip x5))] H).bind fun r55 =>
 some (r55.1,r55.2)) (
 (b7 .str .eql (strip x4) (.str [100,97,116,101])).bind fun x57 =>
 j3 x57 (
 (pc ani [(j4 H (strip x5))]).bind fun x60 =>
 (z7 x60 0).bind fun x62 =>
 (z7 x60 1).bind fun x63 =>
 (C5 7 (strip x62)).bind fun c66 =>
 (C4 .not (strip x63)).bind fun x69 =>
 j3 x69 (
 some ((.str [119,104,97,116,10]),H)) (
 (B9 a0).bind fun x73 =>
 (y2 x73 7).bind fun x74 =>
 (E1 x74 [(strip (c66.getD 0 .g8)),(strip (c66.getD 1 .g8)),(strip (c66.getD 2 .g8)),(strip (c66.getD 3 .g8)),(strip (c66.getD 4 .g8)),(strip (c66.getD 5 .g8)),(strip (c66.getD 6 .g8))] H).bind fun H76 =>
 (qc aa8 [(j4 H76 (.agg [(strip (c66.getD 0 .g8)),(strip (c66.getD 1 .g8)),(strip (c66.getD 2 .g8)),(strip (c66.getD 3 .g8)),(strip (c66.getD 4 .g8)),(strip (c66.getD 5 .g8)),(strip (c66.getD 6 .g8))]))]).bind fun x78 =>
 (b7 .str .add x78 (.str [10])).bind fun x79 =>
 some (x79,H76))) (
 (qc aog [(j4 H (strip (strip x4))),(j4 H (strip x5))]).bind fun x83 =>
 (z7 x83 0).bind fun x85 =>
 (z7 x83 1).bind fun x86 =>
 (C4 .not (strip x86)).bind fun x90 =>
 j3 x90 (
 some ((.str [119,104,97,116,10]),H)) (
 (b7 .str .add (.str [61,32]) (strip x85)).bind fun x93 =>
 (b7 .str .add x93 (.str [10])).bind fun x94 =>
 some (x94,H))))))):=(g9 vb _ _ _ rfl).trans (by kernel_rfl)
theorem ajz (a0 a1:V) (H:VH):cv aeP [a0,a1] H =
 (b7 .str .eql a1 (.str [115,97,121])).bind fun x2 =>
 j3 x2 (
 (cv aac [(strip a0),(.str [])] H).bind fun r6 =>
 some (r6.1,r6.2)) (
 (b7 .str .eql a1 (.str [111,112,101,110])).bind fun x8 =>
 j3 x8 (
 (B9 a0).bind fun x12 =>
 (y2 x12 1).bind fun x13 =>
 (E1 x13 [(.int .i64 0),(.str []),(.str []),(.sl true []),(.sl true []),(.sl true [])] H).bind fun H15 =>
 some ((.str [111,107,10]),H15)) (
 (b7 .str .eql a1 (.str [99,108,101,97,114])).bind fun x17 =>
 j3 x17 (
 (pc acP []).bind fun x20 =>
 (B9 a0).bind fun x21 =>
 (C5 14 x20).bind fun c23 =>
 (E1 x21 [(c23.getD 0 .g8),(c23.getD 1 .g8),(c23.getD 2 .g8),(c23.getD 3 .g8),(c23.getD 4 .g8),(c23.getD 5 .g8),(c23.getD 6 .g8),(c23.getD 7 .g8),(c23.getD 8 .g8),(c23.getD 9 .g8),(c23.getD 10 .g8),(c23.getD 11 .g8),(c23.getD 12 .g8),(c23.getD 13 .g8)] H).bind fun H24 =>
 some ((.str [111,107,10]),H24)) (
 (b7 .str .eql a1 (.str [112,97,115,115])).bind fun x26 =>
 j3 x26 (
 (cv O3 [(strip a0)] H).bind fun r30 =>
 some (r30.1,r30.2)) (
 (b7 .str .eql a1 (.str [104,101,108,100])).bind fun x32 =>
 j3 x32 (
 (B9 a0).bind fun x35 =>
 (y2 x35 0).bind fun x36 =>
 (y5 l5 false false 1 x36 H).bind fun r38 =>
 (qc ang [(j4 r38.2 r38.1)]).bind fun x39 =>
 (qc B5 [(j4 r38.2 x39),(j4 r38.2 (.int .i64 1))]).bind fun x40 =>
 (b7 .str .add (.str [104,101,108,100,32]) x40).bind fun x41 =>
 (b7 .str .add x41 (.str [10])).bind fun x42 =>
 some (x42,r38.2)) (
 (b7 .str .eql a1 (.str [100,111,110,101])).bind fun x44 =>
 j3 x44 (
 (B9 a0).bind fun x47 =>
 (y2 x47 1).bind fun x48 =>
 (y2 x48 5).bind fun x49 =>
 (y5 l5 false false 1 x49 H).bind fun r51 =>
 (y3 r51.1).bind fun x52 =>
 (qc B5 [(j4 r51.2 x52),(j4 r51.2 (.int .i64 1))]).bind fun x53 =>
 (b7 .str .add (.str [100,111,110,101,32]) x53).bind fun x54 =>
 (b7 .str .add x54 (.str [10])).bind fun x55 =>
 some (x55,r51.2)) (
 some ((.str [119,104,97,116,10]),H))))))):=(g9 vb _ _ _ rfl).trans (by kernel_rfl)
theorem ajE (a0 a1:V) (H:VH):cv aac [a0,a1] H =
 (B9 a0).bind fun x2 =>
 (y2 x2 1).bind fun x3 =>
 (y5 l5 false true 6 x3 H).bind fun r5 =>
 (pc acR [(j4 r5.2 r5.1),(j4 r5.2 a1)]).bind fun x7 =>
 (z7 x7 0).bind fun x9 =>
 (z7 (X9 0 x7) 1).bind fun x10 =>
 (z7 (X9 0 x7) 2).bind fun x11 =>
 (C5 6 x9).bind fun c14 =>
 (C4 .not (strip x11)).bind fun x18 =>
 j3 x18 (
 some ((.str [119,104,97,116,10]),r5.2)) (
 (B9 (strip a0)).bind fun x22 =>
 (y2 x22 1).bind fun x23 =>
 (E1 x23 [(c14.getD 0 .g8),(c14.getD 1 .g8),(c14.getD 2 .g8),(c14.getD 3 .g8),(c14.getD 4 .g8),(c14.getD 5 .g8)] r5.2).bind fun H25 =>
 (b7 (.int .i64) .eql (strip x10) (.int .i64 0)).bind fun x27 =>
 j3 x27 (
 some ((.str [45,10]),H25)) (
 (qc adV [(j4 H25 (strip (strip x10)))]).bind fun x30 =>
 (b7 .str .add x30 (.str [10])).bind fun x31 =>
 some (x31,H25))):=(g9 vb _ _ _ rfl).trans (by kernel_rfl)
theorem apX (a0 a1:V) (H:VH):cv acR [a0,a1] H =
 (C5 6 a0).bind fun c1 =>
 (qc acj [(j4 H (.agg [(strip (c1.getD 0 .g8)),(strip (c1.getD 1 .g8)),(strip (c1.getD 2 .g8)),(strip (c1.getD 3 .g8)),(strip (c1.getD 4 .g8)),(strip (c1.getD 5 .g8))]))]).bind fun x6 =>
 (C4 .not x6).bind fun x7 =>
 j3 x7 (
 some ((.n9 [(.agg [(.int .i64 0),(.str []),(.str []),(.sl true []),(.sl true []),(.sl true [])]),(.int .i64 0),(.bool false)]),H)) (
 (pc acI [(j4 H (.agg [(strip (c1.getD 0 .g8)),(strip (c1.getD 1 .g8)),(strip (c1.getD 2 .g8)),(strip (c1.getD 3 .g8)),(strip (c1.getD 4 .g8)),(strip (c1.getD 5 .g8))]))]).bind fun x13 =>
 (C5 6 x13).bind fun c16 =>
 (E1 (.ptr H.length 0) [(c16.getD 0 .g8),(c16.getD 1 .g8),(c16.getD 2 .g8),(c16.getD 3 .g8),(c16.getD 4 .g8),(c16.getD 5 .g8)] (H++[[(.int .i64 0),(.str []),(.str []),(.sl true []),(.sl true []),(.sl true [])]])).bind fun H17 =>
 (cv aaP [(.ptr H.length 0),(strip a1)] H17).bind fun r20 =>
 (z7 r20.1 0).bind fun x22 =>
 (z7 r20.1 1).bind fun x23 =>
 (C4 .not (strip x23)).bind fun x27 =>
 j3 x27 (
 some ((.n9 [(.agg [(.int .i64 0),(.str []),(.str []),(.sl true []),(.sl true []),(.sl true [])]),(.int .i64 0),(.bool false)]),r20.2)) (
 (y5 l5 true true 6 (.ptr H.length 0) r20.2).bind fun r33 =>
 (C5 6 r33.1).bind fun c36 =>
 some ((.n9 [(.agg [(c36.getD 0 .g8),(c36.getD 1 .g8),(c36.getD 2 .g8),(c36.getD 3 .g8),(c36.getD 4 .g8),(c36.getD 5 .g8)]),(strip x22),(.bool true)]),r33.2))):=(g9 vb _ _ _ rfl).trans (by kernel_rfl)
theorem akJ (a0:V) (H:VH):cv acj [a0] H =
 (C5 6 a0).bind fun c1 =>
 (id (
 (b7 (.int .i64) .lss (strip (c1.getD 0 .g8)) (.int .i64 0)).bind fun x5 =>
 k9 x5 (
 some (0,[(.bool false)],H)) (
 (b7 (.int .i64) .gtr (strip (c1.getD 0 .g8)) (.int .i64 5)).bind fun x17 =>
 k9 x17 (
 some (0,[(.bool false)],H)) (
 (qc abg [(j4 H (.agg [(strip (c1.getD 2 .g8)),(strip (c1.getD 3 .g8)),(strip (c1.getD 4 .g8))])),(j4 H (.int .i64 0)),(j4 H (.int .i64 31))]).bind fun x28 =>
 (C4 .not x28).bind fun x29 =>
 k9 x29 (
 some (0,[(.bool false)],H)) (
 (qc aa1 [(j4 H (strip (c1.getD 5 .g8))),(j4 H (.int .i64 5))]).bind fun x38 =>
 (C4 .not x38).bind fun x39 =>
 k9 x39 (
 some (0,[(.bool false)],H)) (
 (b7 .str .neq (strip (c1.getD 1 .g8)) (.str [])).bind fun x46 =>
 k9 x46 (
 (qc V4 [(j4 H (strip (c1.getD 1 .g8)))]).bind fun x50 =>
 (C4 .not x50).bind fun x51 =>
 j3 x51 (
 some (0,[(.bool false)],H)) (
 some (1,[(c1.getD 0 .g8),(c1.getD 1 .g8),(c1.getD 2 .g8),(c1.getD 3 .g8),(c1.getD 4 .g8),(c1.getD 5 .g8)],H))) (
 some (1,[(c1.getD 0 .g8),(c1.getD 1 .g8),(c1.getD 2 .g8),(c1.getD 3 .g8),(c1.getD 4 .g8),(c1.getD 5 .g8)],H)))))):Option (Nat × List V × VH))).bind fun r57 =>
 C6 r57.1 [
 l4 1 r57.2.1 fun v58 =>
 some ((v58 0),r57.2.2),
 l4 6 r57.2.1 fun v59 =>
 (id (
 (b7 (.int .i64) .neq (strip (v59 0)) (.int .i64 5)).bind fun x62 =>
 k9 x62 (
 (b7 .str .eql (strip (v59 1)) (.str [])).bind fun x66 =>
 (b7 (.int .i64) .eql (strip (v59 0)) (.int .i64 0)).bind fun x69 =>
 (b7 .bool .neq x66 x69).bind fun x70 =>
 j3 x70 (
 some (0,[(.bool false)],r57.2.2)) (
 (y3 (strip (v59 3))).bind fun x77 =>
 (b7 (.int .i64) .gtr x77 (.int .i64 0)).bind fun x78 =>
 (b7 (.int .i64) .eql (strip (v59 0)) (.int .i64 3)).bind fun x81 =>
 k9 x81 (
 (b7 .bool .neq x78 (.bool true)).bind fun x84 =>
 j3 x84 (
 some (0,[(.bool false)],r57.2.2)) (
 (y3 (strip (v59 4))).bind fun x90 =>
 (b7 (.int .i64) .gtr x90 (.int .i64 0)).bind fun x91 =>
 k9 x91 (
 (b7 (.int .i64) .neq (strip (v59 0)) (.int .i64 4)).bind fun x95 =>
 j3 x95 (
 some (0,[(.bool false)],r57.2.2)) (
 some (1,[(v59 0),(v59 1),(v59 2),(v59 3),(v59 4),(v59 5)],r57.2.2))) (
 some (1,[(v59 0),(v59 1),(v59 2),(v59 3),(v59 4),(v59 5)],r57.2.2)))) (
 (b7 (.int .i64) .eql (strip (v59 0)) (.int .i64 4)).bind fun x103 =>
 (b7 .bool .neq x78 x103).bind fun x105 =>
 j3 x105 (
 some (0,[(.bool false)],r57.2.2)) (
 (y3 (strip (v59 4))).bind fun x111 =>
 (b7 (.int .i64) .gtr x111 (.int .i64 0)).bind fun x112 =>
 k9 x112 (
 (b7 (.int .i64) .neq (strip (v59 0)) (.int .i64 4)).bind fun x116 =>
 j3 x116 (
 some (0,[(.bool false)],r57.2.2)) (
 some (1,[(v59 0),(v59 1),(v59 2),(v59 3),(v59 4),(v59 5)],r57.2.2))) (
 some (1,[(v59 0),(v59 1),(v59 2),(v59 3),(v59 4),(v59 5)],r57.2.2)))))) (
 (y3 (strip (v59 3))).bind fun x127 =>
 (b7 (.int .i64) .gtr x127 (.int .i64 0)).bind fun x128 =>
 (b7 (.int .i64) .eql (strip (v59 0)) (.int .i64 3)).bind fun x131 =>
 k9 x131 (
 (b7 .bool .neq x128 (.bool true)).bind fun x134 =>
 j3 x134 (
 some (0,[(.bool false)],r57.2.2)) (
 (y3 (strip (v59 4))).bind fun x140 =>
 (b7 (.int .i64) .gtr x140 (.int .i64 0)).bind fun x141 =>
 k9 x141 (
 (b7 (.int .i64) .neq (strip (v59 0)) (.int .i64 4)).bind fun x145 =>
 j3 x145 (
 some (0,[(.bool false)],r57.2.2)) (
 some (1,[(v59 0),(v59 1),(v59 2),(v59 3),(v59 4),(v59 5)],r57.2.2))) (
 some (1,[(v59 0),(v59 1),(v59 2),(v59 3),(v59 4),(v59 5)],r57.2.2)))) (
 (b7 (.int .i64) .eql (strip (v59 0)) (.int .i64 4)).bind fun x153 =>
 (b7 .bool .neq x128 x153).bind fun x155 =>
 j3 x155 (
 some (0,[(.bool false)],r57.2.2)) (
 (y3 (strip (v59 4))).bind fun x161 =>
 (b7 (.int .i64) .gtr x161 (.int .i64 0)).bind fun x162 =>
 k9 x162 (
 (b7 (.int .i64) .neq (strip (v59 0)) (.int .i64 4)).bind fun x166 =>
 j3 x166 (
 some (0,[(.bool false)],r57.2.2)) (
 some (1,[(v59 0),(v59 1),(v59 2),(v59 3),(v59 4),(v59 5)],r57.2.2))) (
 some (1,[(v59 0),(v59 1),(v59 2),(v59 3),(v59 4),(v59 5)],r57.2.2))))):Option (Nat × List V × VH))).bind fun r172 =>
 C6 r172.1 [
 l4 1 r172.2.1 fun v173 =>
 some ((v173 0),r172.2.2),
 l4 6 r172.2.1 fun v174 =>
 (b7 .str .eql (strip (v174 2)) (.str [])).bind fun x178 =>
 k9 x178 (
 some ((.bool true),r172.2.2)) (
 (b7 (.int .i64) .eql (strip (v174 0)) (.int .i64 2)).bind fun x188 =>
 k9 x188 (
 some ((.bool true),r172.2.2)) (
 (b7 (.int .i64) .eql (strip (v174 0)) (.int .i64 3)).bind fun x197 =>
 k9 x197 (
 some ((.bool true),r172.2.2)) (
 (b7 (.int .i64) .eql (strip (v174 0)) (.int .i64 4)).bind fun x204 =>
 some (x204,r172.2.2))))]]:=(g9 vb _ _ _ rfl).trans (by kernel_rfl)
theorem amd (a0 a1:V) (H:VH):cv aa1 [a0,a1] H =
 (y3 (strip a0)).bind fun x2 =>
 (b7 (.int .i64) .leq x2 a1).bind fun x4 =>
 k9 x4 (
 (qc J1 [(j4 H (strip a0)),(j4 H (.fn aad []))]).bind fun x7 =>
 (C4 .not x7).bind fun x8 =>
 some (x8,H)) (
 some ((.bool false),H)):=(g9 vb _ _ _ rfl).trans (by kernel_rfl)
theorem abe (a0 a1:V) (H:VH):cv J1 [a0,a1] H =
 (qc K0 [(j4 H (strip a0)),(j4 H a1)]).bind fun x3 =>
 (b7 (.int .i64) .geq x3 (.int .i64 0)).bind fun x4 =>
 some (x4,H):=(g9 vb _ _ _ rfl).trans (by kernel_rfl)
noncomputable def F5:List V->VH->Option (Option Nat × List V × VH):=D1 (vb.ctx cv l6) (vb.b.G7 194) (vb.C7 194) ⟨⟨[0,1,7,8],[],[]⟩,[(.exit 0,⟨[],[],[]⟩),(.ret,⟨[4],[],[]⟩)]⟩ (D0 Tryz.f194 2)
theorem P0 (v0 v1 v2 v3:V) (H:VH):F5 [v0,v1,v2,v3] H =
 (b7 (.int .i64) .lss v3 v2).bind fun x4 =>
 j3 x4 (
 (y8 3 (strip v0) v3).bind fun x10 =>
 (y5 l5 false true 3 x10 H).bind fun r12 =>
 (aeQ v1).bind fun p14 =>
 (qc p14.1 ((([r12.1]:List V)++p14.2).map (j4 r12.2))).bind fun x13 =>
 j3 x13 (
 some (some 1,[(strip v3)],r12.2)) (
 (b7 (.int .i64) .add (strip v3) (.int .i64 1)).bind fun x17 =>
 some (none,[v0,(strip v1),v2,x17],r12.2))) (
 some (some 0,[],H)):=by kernel_rfl
theorem abQ (a0 a1:V) (H:VH):cv K0 [a0,a1] H =
 (y3 (strip a0)).bind fun x2 =>
 (l6 F5 [a0,a1,x2,(.int .i64 0)] H).bind fun r19 =>
 C6 r19.1 [
 l4 0 r19.2.1 fun v20 =>
 some ((.int .i64 (-1)),r19.2.2),
 l4 1 r19.2.1 fun v22 =>
 some ((v22 0),r19.2.2)]:=(g9 vb _ _ _ rfl).trans (by kernel_rfl)
theorem aj1 (a0:V) (H:VH):cv aad [a0] H =
 (C5 3 a0).bind fun c1 =>
 (qc O9 [(j4 H (.agg [(strip (c1.getD 0 .g8)),(strip (c1.getD 1 .g8)),(strip (c1.getD 2 .g8))]))]).bind fun x4 =>
 (C4 .not x4).bind fun x5 =>
 some (x5,H):=(g9 vb _ _ _ rfl).trans (by kernel_rfl)
theorem ak4 (a0:V) (H:VH):cv acI [a0] H =
 (C5 6 a0).bind fun c1 =>
 (pc aaC [(j4 H (.agg [(strip (c1.getD 2 .g8)),(strip (c1.getD 3 .g8)),(strip (c1.getD 4 .g8))]))]).bind fun x9 =>
 (pc Z5 [(j4 H (strip (c1.getD 5 .g8)))]).bind fun x12 =>
 (y7 (strip (c1.getD 0 .g8))).bind fun y14 =>
 (y7 (strip (c1.getD 1 .g8))).bind fun y15 =>
 (C5 3 x9).bind fun c16 =>
 (y7 x12).bind fun y17 =>
 some ((.agg [y14,y15,(c16.getD 0 .g8),(c16.getD 1 .g8),(c16.getD 2 .g8),y17]),H):=(g9 vb _ _ _ rfl).trans (by kernel_rfl)
theorem an0 (a0:V) (H:VH):cv aaC [a0] H =
 (C5 3 a0).bind fun c1 =>
 (pc E6 [(j4 H (strip (c1.getD 1 .g8)))]).bind fun x7 =>
 (pc E6 [(j4 H (strip (c1.getD 2 .g8)))]).bind fun x10 =>
 (y7 (strip (c1.getD 0 .g8))).bind fun y12 =>
 (y7 x7).bind fun y13 =>
 (y7 x10).bind fun y14 =>
 some ((.agg [y12,y13,y14]),H):=(g9 vb _ _ _ rfl).trans (by kernel_rfl)
theorem aeA (a0:V) (H:VH):cv E6 [a0] H =
 (ahn .eql (strip a0)).bind fun x2 =>
 j3 x2 (
 some ((.sl true []),H)) (
 (F8 false 1 16 [] a0).bind fun x6 =>
 some (x6,H)):=(g9 vb _ _ _ rfl).trans (by kernel_rfl)
noncomputable def agW:List V->VH->Option (Option Nat × List V × VH):=D1 (vb.ctx cv l6) (vb.b.G7 121) (vb.C7 121) ⟨⟨[3,7,8,9],[],[]⟩,[(.exit 0,⟨[3],[],[]⟩)]⟩ (D0 Tryz.f121 3)
theorem aj4 (v0 v1 v2 v3:V) (H:VH):agW [v0,v1,v2,v3] H =
 (b7 (.int .i64) .lss v3 v2).bind fun x6 =>
 j3 x6 (
 (y8 3 v1 v3).bind fun x7 =>
 (y5 l5 false true 3 x7 H).bind fun r9 =>
 (C5 3 r9.1).bind fun c12 =>
 (pc aaC [(j4 r9.2 (.agg [(strip (c12.getD 0 .g8)),(strip (c12.getD 1 .g8)),(strip (c12.getD 2 .g8))]))]).bind fun x15 =>
 (C5 3 x15).bind fun c17 =>
 (S6 v0).bind fun s19 =>
 (F8 false 3 64 s19 (.sl true [[(c17.getD 0 .g8),(c17.getD 1 .g8),(c17.getD 2 .g8)]])).bind fun x18 =>
 (b7 (.int .i64) .add v3 (.int .i64 1)).bind fun x21 =>
 some (none,[x18,v1,v2,x21],r9.2)) (
 some (some 0,[v0],H)):=by kernel_rfl
theorem amV (a0:V) (H:VH):cv Z5 [a0] H =
 (y3 (strip a0)).bind fun x4 =>
 (l6 agW [(.sl true []),(strip a0),x4,(.int .i64 0)] H).bind fun r23 =>
 C6 r23.1 [
 l4 1 r23.2.1 fun v24 =>
 some ((v24 0),r23.2.2)]:=(g9 vb _ _ _ rfl).trans (by kernel_rfl)
theorem ak3 (a0 a1:V) (H:VH):cv aaP [a0,a1] H =
 (id (
 (B9 a0).bind fun x3 =>
 (y2 x3 0).bind fun x4 =>
 (y5 l5 false false 1 x4 H).bind fun r6 =>
 (b7 (.int .i64) .eql r6.1 (.int .i64 5)).bind fun x7 =>
 k9 x7 (
 some (0,[(.int .i64 0),(.bool false)],r6.2)) (
 (qc aab [(j4 r6.2 a1)]).bind fun x14 =>
 (C4 .not x14).bind fun x15 =>
 j3 x15 (
 some (0,[(.int .i64 0),(.bool false)],r6.2)) (
 (B9 (strip a0)).bind fun x21 =>
 (y2 x21 0).bind fun x22 =>
 (y5 l5 false false 1 x22 r6.2).bind fun r24 =>
 (b7 (.int .i64) .eql r24.1 (.int .i64 4)).bind fun x25 =>
 j3 x25 (
 (cv aaT [(strip (strip (strip a0))),(strip (strip a1))] r24.2).bind fun r30 =>
 some (0,[r30.1,(.bool true)],r30.2)) (
 some (1,[(strip (strip a0)),(strip a1)],r24.2)))):Option (Nat × List V × VH))).bind fun r33 =>
 C6 r33.1 [
 l4 2 r33.2.1 fun v34 =>
 some ((.n9 [(v34 0),(v34 1)]),r33.2.2),
 l4 2 r33.2.1 fun v35 =>
 (cv Z2 [(strip (v35 0)),(strip (v35 1))] r33.2.2).bind fun r39 =>
 some ((.n9 [r39.1,(.bool true)]),r39.2)]:=(g9 vb _ _ _ rfl).trans (by kernel_rfl)
theorem ah3 (a0 a1:V) (H:VH):cv aaT [a0,a1] H =
 (b7 .str .neq a1 (.str [46])).bind fun x2 =>
 j3 x2 (
 (B9 a0).bind fun x4 =>
 (y2 x4 2).bind fun x5 =>
 (y2 x5 2).bind fun x6 =>
 (y5 l5 false false 1 x6 H).bind fun r8 =>
 (y3 r8.1).bind fun x9 =>
 (b7 (.int .i64) .leq x9 (.int .i64 30)).bind fun x10 =>
 j3 x10 (
 (B9 (strip (strip a0))).bind fun x13 =>
 (y2 x13 2).bind fun x14 =>
 (y2 x14 2).bind fun x15 =>
 (y5 l5 true false 1 x15 r8.2).bind fun r17 =>
 (qc abR [(j4 r17.2 (strip a1)),(j4 r17.2 (.str [46]))]).bind fun x19 =>
 (y7 x19).bind fun y21 =>
 (S6 r17.1).bind fun s23 =>
 (F8 false 1 16 s23 (.sl true [[y21]])).bind fun x22 =>
 (B9 (strip a0)).bind fun x24 =>
 (y2 x24 2).bind fun x25 =>
 (y2 x25 2).bind fun x26 =>
 (y7 x22).bind fun y28 =>
 (E1 x26 [y28] r17.2).bind fun H29 =>
 some ((.int .i64 0),H29)) (
 some ((.int .i64 0),r8.2))) (
 (B9 a0).bind fun x33 =>
 (y2 x33 2).bind fun x34 =>
 (y5 l5 true true 3 x34 H).bind fun r36 =>
 (C5 3 r36.1).bind fun c39 =>
 (B9 (strip a0)).bind fun x43 =>
 (y2 x43 0).bind fun x44 =>
 (E1 x44 [(.int .i64 1)] r36.2).bind fun H46 =>
 (B9 (strip (strip a0))).bind fun x47 =>
 (y2 x47 2).bind fun x48 =>
 (E1 x48 [(.str []),(.sl true []),(.sl true [])] H46).bind fun H50 =>
 (y3 (strip (c39.getD 2 .g8))).bind fun x53 =>
 (b7 (.int .i64) .gtr x53 (.int .i64 30)).bind fun x54 =>
 j3 x54 (
 some ((.int .i64 552),H50)) (
 (B9 (strip (strip (strip a0)))).bind fun x58 =>
 (y2 x58 5).bind fun x59 =>
 (y5 l5 false false 1 x59 H50).bind fun r61 =>
 (y3 r61.1).bind fun x62 =>
 (b7 (.int .i64) .eql x62 (.int .i64 5)).bind fun x63 =>
 j3 x63 (
 some ((.int .i64 452),r61.2)) (
 (B9 (strip (strip (strip (strip (strip a0)))))).bind fun x68 =>
 (y2 x68 5).bind fun x69 =>
 (y5 l5 true false 1 x69 r61.2).bind fun r71 =>
 (S6 r71.1).bind fun s75 =>
 (F8 false 3 64 s75 (.sl true [[(c39.getD 0 .g8),(c39.getD 1 .g8),(c39.getD 2 .g8)]])).bind fun x74 =>
 (B9 (strip (strip (strip (strip a0))))).bind fun x76 =>
 (y2 x76 5).bind fun x77 =>
 (y7 x74).bind fun y79 =>
 (E1 x77 [y79] r71.2).bind fun H80 =>
 some ((.int .i64 250),H80)))):=(g9 vb _ _ _ rfl).trans (by kernel_rfl)
theorem aiX (a0 a1:V) (H:VH):cv abR [a0,a1] H =
 (qc O5 [(j4 H a0),(j4 H a1)]).bind fun x3 =>
 some (x3,H):=(g9 vb _ _ _ rfl).trans (by kernel_rfl)
theorem adZ (a0 a1:V) (H:VH):cv O5 [a0,a1] H =
 (qc G6 [(j4 H a0),(j4 H a1)]).bind fun x3 =>
 j3 x3 (
 (A3 (strip a1)).bind fun x6 =>
 (C9 (strip a0) (some x6) none).bind fun x7 =>
 some (x7,H)) (
 some ((strip a0),H)):=(g9 vb _ _ _ rfl).trans (by kernel_rfl)
theorem agD (a0 a1:V) (H:VH):cv Z2 [a0,a1] H =
 (id (
 (qc Y7 [(j4 H (strip a1)),(j4 H (.int .u8 32))]).bind fun x6 =>
 (b7 (.int .i64) .geq x6 (.int .i64 0)).bind fun x9 =>
 j3 x9 (
 (C9 (strip (strip a1)) none (some (strip x6))).bind fun x12 =>
 (b7 (.int .i64) .add (strip (strip x6)) (.int .i64 1)).bind fun x15 =>
 (C9 (strip (strip (strip a1))) (some x15) none).bind fun x16 =>
 some (0,[a0,x12,x16,(.bool true)],H)) (
 some (0,[a0,a1,(.str []),(.bool false)],H)):Option (Nat × List V × VH))).bind fun r20 =>
 C6 r20.1 [
 l4 4 r20.2.1 fun v21 =>
 (qc J8 [(j4 r20.2.2 (v21 1))]).bind fun x23 =>
 (b7 .str .eql x23 (.str [104,101,108,111])).bind fun x26 =>
 j3 x26 (
 (qc J8 [(j4 r20.2.2 (v21 2))]).bind fun x29 =>
 (id (
 (C4 .not (v21 3)).bind fun x32 =>
 k9 x32 (
 some (0,[(.int .i64 501)],r20.2.2)) (
 (qc V4 [(j4 r20.2.2 x29)]).bind fun x37 =>
 (C4 .not x37).bind fun x38 =>
 j3 x38 (
 some (0,[(.int .i64 501)],r20.2.2)) (
 some (1,[(v21 0),(strip x29)],r20.2.2))):Option (Nat × List V × VH))).bind fun r41 =>
 C6 r41.1 [
 l4 1 r41.2.1 fun v42 =>
 some ((v42 0),r41.2.2),
 l4 2 r41.2.1 fun v43 =>
 (B9 (v43 0)).bind fun x49 =>
 (y2 x49 1).bind fun x50 =>
 (y7 (v43 1)).bind fun y52 =>
 (E1 x50 [y52] r41.2.2).bind fun H53 =>
 (B9 (strip (v43 0))).bind fun x54 =>
 (y2 x54 0).bind fun x55 =>
 (E1 x55 [(.int .i64 1)] H53).bind fun H57 =>
 (B9 (strip (strip (v43 0)))).bind fun x58 =>
 (y2 x58 2).bind fun x59 =>
 (E1 x59 [(.str []),(.sl true []),(.sl true [])] H57).bind fun H61 =>
 some ((.int .i64 250),H61)]) (
 (b7 .str .eql (strip x23) (.str [109,97,105,108])).bind fun x64 =>
 j3 x64 (
 (qc abK [(j4 r20.2.2 (v21 2)),(j4 r20.2.2 (.str [70,82,79,77,58]))]).bind fun x67 =>
 (z7 x67 0).bind fun x69 =>
 (z7 x67 1).bind fun x70 =>
 (C4 .not (strip x70)).bind fun x74 =>
 j3 x74 (
 some ((.int .i64 501),r20.2.2)) (
 (B9 (v21 0)).bind fun x78 =>
 (y2 x78 0).bind fun x79 =>
 (y5 l5 false false 1 x79 r20.2.2).bind fun r81 =>
 (b7 (.int .i64) .neq r81.1 (.int .i64 1)).bind fun x82 =>
 j3 x82 (
 some ((.int .i64 503),r81.2)) (
 (y7 (strip x69)).bind fun y89 =>
 (B9 (strip (v21 0))).bind fun x90 =>
 (y2 x90 0).bind fun x91 =>
 (E1 x91 [(.int .i64 2)] r81.2).bind fun H93 =>
 (B9 (strip (strip (v21 0)))).bind fun x94 =>
 (y2 x94 2).bind fun x95 =>
 (E1 x95 [y89,(.sl true []),(.sl true [])] H93).bind fun H97 =>
 some ((.int .i64 250),H97)))) (
 (b7 .str .eql (strip (strip x23)) (.str [114,99,112,116])).bind fun x100 =>
 j3 x100 (
 (qc abK [(j4 r20.2.2 (v21 2)),(j4 r20.2.2 (.str [84,79,58]))]).bind fun x103 =>
 (z7 x103 0).bind fun x105 =>
 (z7 x103 1).bind fun x106 =>
 (id (
 (C4 .not (strip x106)).bind fun x110 =>
 k9 x110 (
 some (0,[(.int .i64 501)],r20.2.2)) (
 (b7 .str .eql (strip x105) (.str [])).bind fun x116 =>
 j3 x116 (
 some (0,[(.int .i64 501)],r20.2.2)) (
 (B9 (v21 0)).bind fun x121 =>
 (y2 x121 0).bind fun x122 =>
 (y5 l5 false false 1 x122 r20.2.2).bind fun r124 =>
 (b7 (.int .i64) .neq r124.1 (.int .i64 2)).bind fun x125 =>
 k9 x125 (
 (B9 (strip (v21 0))).bind fun x128 =>
 (y2 x128 0).bind fun x129 =>
 (y5 l5 false false 1 x129 r124.2).bind fun r131 =>
 (b7 (.int .i64) .neq r131.1 (.int .i64 3)).bind fun x132 =>
 j3 x132 (
 some (0,[(.int .i64 503)],r131.2)) (
 (B9 (strip (strip (v21 0)))).bind fun x137 =>
 (y2 x137 2).bind fun x138 =>
 (y2 x138 1).bind fun x139 =>
 (y5 l5 false false 1 x139 r131.2).bind fun r141 =>
 (y3 r141.1).bind fun x142 =>
 (b7 (.int .i64) .eql x142 (.int .i64 10)).bind fun x143 =>
 j3 x143 (
 some (0,[(.int .i64 452)],r141.2)) (
 some (1,[(strip (strip (strip (v21 0)))),(strip (strip x105))],r141.2)))) (
 (B9 (strip (v21 0))).bind fun x149 =>
 (y2 x149 2).bind fun x150 =>
 (y2 x150 1).bind fun x151 =>
 (y5 l5 false false 1 x151 r124.2).bind fun r153 =>
 (y3 r153.1).bind fun x154 =>
 (b7 (.int .i64) .eql x154 (.int .i64 10)).bind fun x155 =>
 j3 x155 (
 some (0,[(.int .i64 452)],r153.2)) (
 some (1,[(strip (strip (v21 0))),(strip (strip x105))],r153.2))))):Option (Nat × List V × VH))).bind fun r158 =>
 C6 r158.1 [
 l4 1 r158.2.1 fun v159 =>
 some ((v159 0),r158.2.2),
 l4 2 r158.2.1 fun v160 =>
 (B9 (strip (strip (v160 0)))).bind fun x164 =>
 (y2 x164 2).bind fun x165 =>
 (y2 x165 1).bind fun x166 =>
 (y5 l5 true false 1 x166 r158.2.2).bind fun r168 =>
 (y7 (v160 1)).bind fun y171 =>
 (S6 r168.1).bind fun s173 =>
 (F8 false 1 16 s173 (.sl true [[y171]])).bind fun x172 =>
 (B9 (v160 0)).bind fun x174 =>
 (y2 x174 0).bind fun x175 =>
 (E1 x175 [(.int .i64 3)] r168.2).bind fun H177 =>
 (B9 (strip (v160 0))).bind fun x178 =>
 (y2 x178 2).bind fun x179 =>
 (y2 x179 1).bind fun x180 =>
 (y7 x172).bind fun y182 =>
 (E1 x180 [y182] H177).bind fun H183 =>
 some ((.int .i64 250),H183)]) (
 j3 (v21 3) (
 some ((.int .i64 500),r20.2.2)) (
 (b7 .str .eql (strip (strip (strip x23))) (.str [100,97,116,97])).bind fun x189 =>
 j3 x189 (
 (B9 (v21 0)).bind fun x192 =>
 (y2 x192 0).bind fun x193 =>
 (y5 l5 false false 1 x193 r20.2.2).bind fun r195 =>
 (b7 (.int .i64) .neq r195.1 (.int .i64 3)).bind fun x196 =>
 j3 x196 (
 some ((.int .i64 503),r195.2)) (
 (B9 (strip (v21 0))).bind fun x199 =>
 (y2 x199 0).bind fun x200 =>
 (E1 x200 [(.int .i64 4)] r195.2).bind fun H202 =>
 some ((.int .i64 354),H202))) (
 (b7 .str .eql (strip (strip (strip (strip x23)))) (.str [114,115,101,116])).bind fun x205 =>
 j3 x205 (
 (B9 (v21 0)).bind fun x209 =>
 (y2 x209 2).bind fun x210 =>
 (E1 x210 [(.str []),(.sl true []),(.sl true [])] r20.2.2).bind fun H212 =>
 (B9 (strip (v21 0))).bind fun x214 =>
 (y2 x214 0).bind fun x215 =>
 (y5 l5 false false 1 x215 H212).bind fun r217 =>
 (b7 (.int .i64) .neq r217.1 (.int .i64 0)).bind fun x218 =>
 j3 x218 (
 (B9 (strip (strip (v21 0)))).bind fun x220 =>
 (y2 x220 0).bind fun x221 =>
 (E1 x221 [(.int .i64 1)] r217.2).bind fun H223 =>
 some ((.int .i64 250),H223)) (
 some ((.int .i64 250),r217.2))) (
 (b7 .str .eql (strip (strip (strip (strip (strip x23))))) (.str [110,111,111,112])).bind fun x227 =>
 j3 x227 (
 some ((.int .i64 250),r20.2.2)) (
 (b7 .str .eql (strip (strip (strip (strip (strip (strip x23)))))) (.str [113,117,105,116])).bind fun x231 =>
 j3 x231 (
 (B9 (v21 0)).bind fun x236 =>
 (y2 x236 0).bind fun x237 =>
 (E1 x237 [(.int .i64 5)] r20.2.2).bind fun H239 =>
 (B9 (strip (v21 0))).bind fun x240 =>
 (y2 x240 2).bind fun x241 =>
 (E1 x241 [(.str []),(.sl true []),(.sl true [])] H239).bind fun H243 =>
 some ((.int .i64 221),H243)) (
 some ((.int .i64 500),r20.2.2)))))))))]:=(g9 vb _ _ _ rfl).trans (by kernel_rfl)
noncomputable def ait:List V->VH->Option (Option Nat × List V × VH):=D1 (vb.ctx cv l6) (vb.b.G7 132) (vb.C7 132) ⟨⟨[0,1,5],[],[]⟩,[(.exit 0,⟨[],[],[]⟩),(.ret,⟨[4],[],[]⟩)]⟩ (D0 Tryz.f132 2)
theorem alA (v0 v1 v2:V) (H:VH):ait [v0,v1,v2] H =
 (A3 v0).bind fun x4 =>
 (b7 (.int .i64) .lss v2 x4).bind fun x5 =>
 j3 x5 (
 (id (
 (A9 (strip v0) (strip v2)).bind fun x8 =>
 (b7 (.int .u8) .eql x8 (.int .u8 34)).bind fun x9 =>
 j3 x9 (
 (C9 (strip (strip v0)) (some (strip (strip v2))) none).bind fun x13 =>
 (qc adx [(j4 H x13)]).bind fun x14 =>
 (z7 x14 0).bind fun x16 =>
 (z7 x14 1).bind fun x17 =>
 (z7 x14 2).bind fun x18 =>
 (C4 .not (strip x18)).bind fun x23 =>
 j3 x23 (
 some (0,[(.int .i64 (-1))],H)) (
 (b7 (.int .i64) .sub (strip x17) (.int .i64 1)).bind fun x27 =>
 (b7 (.int .i64) .add (strip (strip (strip v2))) x27).bind fun x28 =>
 some (1,[(strip (strip (strip v0))),v1,x28],H))) (
 (b7 (.int .u8) .eql x8 v1).bind fun x31 =>
 j3 x31 (
 some (0,[(strip (strip v2))],H)) (
 some (1,[(strip (strip v0)),(strip v1),(strip (strip v2))],H))):Option (Nat × List V × VH))).bind fun r35 =>
 C6 r35.1 [
 l4 1 r35.2.1 fun v36 =>
 some (some 1,[(v36 0)],r35.2.2),
 l4 3 r35.2.1 fun v37 =>
 (b7 (.int .i64) .add (v37 2) (.int .i64 1)).bind fun x39 =>
 some (none,[(v37 0),(v37 1),x39],r35.2.2)]) (
 some (some 0,[],H)):=by kernel_rfl
theorem ape (a0 a1:V) (H:VH):cv Y7 [a0,a1] H =
 (l6 ait [a0,a1,(.int .i64 0)] H).bind fun r41 =>
 C6 r41.1 [
 l4 0 r41.2.1 fun v42 =>
 some ((.int .i64 (-1)),r41.2.2),
 l4 1 r41.2.1 fun v44 =>
 some ((v44 0),r41.2.2)]:=(g9 vb _ _ _ rfl).trans (by kernel_rfl)
noncomputable def ajh:List V->VH->Option (Option Nat × List V × VH):=D1 (vb.ctx cv l6) (vb.b.G7 171) (vb.C7 171) ⟨⟨[0,5,6],[],[]⟩,[(.exit 0,⟨[],[],[]⟩),(.ret,⟨[2,3,4],[],[]⟩)]⟩ (D0 Tryz.f171 3)
theorem am4 (v0 v1 v2:V) (H:VH):ajh [v0,v1,v2] H =
 (A3 v0).bind fun x8 =>
 (b7 (.int .i64) .lss v2 x8).bind fun x9 =>
 j3 x9 (
 (id (
 (id (
 (A9 (strip v0) (strip v2)).bind fun x12 =>
 (b7 (.int .u8) .eql x12 (.int .u8 34)).bind fun x13 =>
 j3 x13 (
 (aiO (strip v1) H).bind fun x16 =>
 (b7 (.int .i64) .add (strip (strip v2)) (.int .i64 1)).bind fun x18 =>
 some (0,[x16,x18,(.bool true)],H)) (
 (A9 (strip (strip v0)) (strip (strip v2))).bind fun x24 =>
 (b7 (.int .u8) .eql x24 (.int .u8 92)).bind fun x25 =>
 j3 x25 (
 (b7 (.int .i64) .add (strip (strip (strip v2))) (.int .i64 1)).bind fun x28 =>
 (A3 (strip (strip (strip v0)))).bind fun x32 =>
 (b7 (.int .i64) .eql x28 x32).bind fun x33 =>
 j3 x33 (
 some (0,[(.str []),(.int .i64 0),(.bool false)],H)) (
 some (1,[(strip (strip (strip (strip v0)))),v1,(strip x28)],H))) (
 some (1,[(strip (strip (strip v0))),v1,(strip (strip (strip v2)))],H))):Option (Nat × List V × VH))).bind fun r37 =>
 C6 r37.1 [
 l4 3 r37.2.1 fun v38 =>
 some (0,[(v38 0),(v38 1),(v38 2)],r37.2.2),
 l4 3 r37.2.1 fun v39 =>
 (A9 (v39 0) (v39 2)).bind fun x43 =>
 (y7 x43).bind fun y45 =>
 (S6 (v39 1)).bind fun s47 =>
 (F8 false 1 1 s47 (.sl true [[y45]])).bind fun x46 =>
 some (1,[(strip (v39 0)),x46,(strip (v39 2))],r37.2.2)]:Option (Nat × List V × VH))).bind fun r49 =>
 C6 r49.1 [
 l4 3 r49.2.1 fun v50 =>
 some (some 1,[(v50 0),(v50 1),(v50 2)],r49.2.2),
 l4 3 r49.2.1 fun v51 =>
 (b7 (.int .i64) .add (v51 2) (.int .i64 1)).bind fun x53 =>
 some (none,[(v51 0),(v51 1),x53],r49.2.2)]) (
 some (some 0,[],H)):=by kernel_rfl
theorem aqr (a0:V) (H:VH):cv adx [a0] H =
 (l6 ajh [a0,(.sl true []),(.int .i64 1)] H).bind fun r55 =>
 C6 r55.1 [
 l4 0 r55.2.1 fun v56 =>
 some ((.n9 [(.str []),(.int .i64 0),(.bool false)]),r55.2.2),
 l4 3 r55.2.1 fun v60 =>
 some ((.n9 [(v60 0),(v60 1),(v60 2)]),r55.2.2)]:=(g9 vb _ _ _ rfl).trans (by kernel_rfl)
theorem aqB (a0 a1:V) (H:VH):cv abK [a0,a1] H =
 (id (
 (A3 a0).bind fun x3 =>
 (A3 a1).bind fun x5 =>
 (b7 (.int .i64) .lss x3 x5).bind fun x6 =>
 k9 x6 (
 some (0,[(.str []),(.bool false)],H)) (
 (A3 (strip a1)).bind fun x13 =>
 (C9 (strip a0) none (some x13)).bind fun x14 =>
 (qc aey [(j4 H x14),(j4 H (strip (strip a1)))]).bind fun x16 =>
 (C4 .not x16).bind fun x17 =>
 j3 x17 (
 some (0,[(.str []),(.bool false)],H)) (
 some (1,[(strip (strip a0)),(strip (strip (strip a1)))],H))):Option (Nat × List V × VH))).bind fun r21 =>
 C6 r21.1 [
 l4 2 r21.2.1 fun v22 =>
 some ((.n9 [(v22 0),(v22 1)]),r21.2.2),
 l4 2 r21.2.1 fun v23 =>
 (A3 (v23 1)).bind fun x26 =>
 (C9 (v23 0) (some x26) none).bind fun x27 =>
 (qc acr [(j4 r21.2.2 x27),(j4 r21.2.2 (.str [62]))]).bind fun x28 =>
 (z7 x28 0).bind fun x30 =>
 (z7 x28 1).bind fun x31 =>
 (qc ack [(j4 r21.2.2 (strip x30)),(j4 r21.2.2 (.str [60]))]).bind fun x35 =>
 (z7 x35 0).bind fun x37 =>
 (z7 x35 1).bind fun x38 =>
 (id (
 (C4 .not (strip x31)).bind fun x42 =>
 k9 x42 (
 some (0,[(.str []),(.bool false)],r21.2.2)) (
 (C4 .not (strip x38)).bind fun x48 =>
 j3 x48 (
 some (0,[(.str []),(.bool false)],r21.2.2)) (
 some (1,[(strip x37)],r21.2.2))):Option (Nat × List V × VH))).bind fun r52 =>
 C6 r52.1 [
 l4 2 r52.2.1 fun v53 =>
 some ((.n9 [(v53 0),(v53 1)]),r52.2.2),
 l4 1 r52.2.1 fun v54 =>
 (qc aau [(j4 r52.2.2 (v54 0)),(j4 r52.2.2 (.str [64]))]).bind fun x56 =>
 (z7 x56 0).bind fun x58 =>
 (z7 x56 1).bind fun x59 =>
 (z7 x56 2).bind fun x60 =>
 (id (
 j3 (strip x60) (
 (b7 .str .add (strip x58) (.str [64])).bind fun x66 =>
 (qc J8 [(j4 r52.2.2 (strip x59))]).bind fun x68 =>
 (b7 .str .add x66 x68).bind fun x69 =>
 some (0,[x69],r52.2.2)) (
 some (0,[(strip (v54 0))],r52.2.2)):Option (Nat × List V × VH))).bind fun r71 =>
 C6 r71.1 [
 l4 1 r71.2.1 fun v72 =>
 (qc adK [(j4 r71.2.2 (strip (v72 0)))]).bind fun x75 =>
 some ((.n9 [(v72 0),x75]),r71.2.2)]]]:=(g9 vb _ _ _ rfl).trans (by kernel_rfl)
theorem anV (a0 a1:V) (H:VH):cv aey [a0,a1] H =
 (qc J8 [(j4 H a0)]).bind fun x2 =>
 (qc J8 [(j4 H a1)]).bind fun x4 =>
 (b7 .str .eql x2 x4).bind fun x5 =>
 some (x5,H):=(g9 vb _ _ _ rfl).trans (by kernel_rfl)
theorem akt (a0 a1:V) (H:VH):cv acr [a0,a1] H =
 (qc P7 [(j4 H a0),(j4 H a1)]).bind fun x4 =>
 (z7 x4 0).bind fun x5 =>
 (z7 x4 1).bind fun x6 =>
 some ((.n9 [(strip x5),(strip x6)]),H):=(g9 vb _ _ _ rfl).trans (by kernel_rfl)
theorem ad9 (a0 a1:V) (H:VH):cv P7 [a0,a1] H =
 (qc Q4 [(j4 H a0),(j4 H a1)]).bind fun x4 =>
 (C4 .not x4).bind fun x5 =>
 j3 x5 (
 some ((.n9 [(strip a0),(.bool false)]),H)) (
 (A3 (strip (strip a0))).bind fun x11 =>
 (A3 (strip a1)).bind fun x13 =>
 (b7 (.int .i64) .sub x11 x13).bind fun x14 =>
 (C9 (strip a0) none (some x14)).bind fun x15 =>
 some ((.n9 [x15,(.bool true)]),H)):=(g9 vb _ _ _ rfl).trans (by kernel_rfl)
theorem ad1 (a0 a1:V) (H:VH):cv Q4 [a0,a1] H =
 (A3 a0).bind fun x2 =>
 (A3 a1).bind fun x4 =>
 (b7 (.int .i64) .geq x2 x4).bind fun x5 =>
 k9 x5 (
 (A3 (strip (strip a0))).bind fun x9 =>
 (A3 (strip a1)).bind fun x11 =>
 (b7 (.int .i64) .sub x9 x11).bind fun x12 =>
 (C9 (strip a0) (some x12) none).bind fun x13 =>
 (b7 .str .eql x13 (strip (strip a1))).bind fun x15 =>
 some (x15,H)) (
 some ((.bool false),H)):=(g9 vb _ _ _ rfl).trans (by kernel_rfl)
theorem ajM (a0 a1:V) (H:VH):cv ack [a0,a1] H =
 (qc P9 [(j4 H a0),(j4 H a1)]).bind fun x4 =>
 (z7 x4 0).bind fun x5 =>
 (z7 x4 1).bind fun x6 =>
 some ((.n9 [(strip x5),(strip x6)]),H):=(g9 vb _ _ _ rfl).trans (by kernel_rfl)
theorem ad0 (a0 a1:V) (H:VH):cv P9 [a0,a1] H =
 (qc G6 [(j4 H a0),(j4 H a1)]).bind fun x4 =>
 (C4 .not x4).bind fun x5 =>
 j3 x5 (
 some ((.n9 [(strip a0),(.bool false)]),H)) (
 (A3 (strip a1)).bind fun x11 =>
 (C9 (strip a0) (some x11) none).bind fun x12 =>
 some ((.n9 [x12,(.bool true)]),H)):=(g9 vb _ _ _ rfl).trans (by kernel_rfl)
theorem am2 (a0:V) (H:VH):cv adV [a0] H =
 (b7 (.int .i64) .eql a0 (.int .i64 221)).bind fun x2 =>
 j3 x2 (
 some ((.str [50,50,49,32,98,121,101]),H)) (
 (b7 (.int .i64) .eql a0 (.int .i64 250)).bind fun x5 =>
 j3 x5 (
 some ((.str [50,53,48,32,111,107]),H)) (
 (b7 (.int .i64) .eql a0 (.int .i64 354)).bind fun x8 =>
 j3 x8 (
 some ((.str [51,53,52,32,103,111,32,111,110]),H)) (
 (b7 (.int .i64) .eql a0 (.int .i64 452)).bind fun x11 =>
 j3 x11 (
 some ((.str [52,53,50,32,116,111,111,32,109,97,110,121]),H)) (
 (b7 (.int .i64) .eql a0 (.int .i64 500)).bind fun x14 =>
 j3 x14 (
 some ((.str [53,48,48,32,119,104,97,116]),H)) (
 (b7 (.int .i64) .eql a0 (.int .i64 501)).bind fun x17 =>
 j3 x17 (
 some ((.str [53,48,49,32,104,111,119]),H)) (
 (b7 (.int .i64) .eql a0 (.int .i64 503)).bind fun x20 =>
 j3 x20 (
 some ((.str [53,48,51,32,110,111,116,32,110,111,119]),H)) (
 (b7 (.int .i64) .eql a0 (.int .i64 552)).bind fun x23 =>
 j3 x23 (
 some ((.str [53,53,50,32,116,111,111,32,108,111,110,103]),H)) (
 some ((.str []),H))))))))):=(g9 vb _ _ _ rfl).trans (by kernel_rfl)
noncomputable def acW:List V->VH->Option (Option Nat × List V × VH):=D1 (vb.ctx cv l6) (vb.b.G7 72) (vb.C7 72) ⟨⟨[0,3,17,18,19,53,54,55],[],[]⟩,[(.exit 2,⟨[0,3,17,18,19],[],[]⟩)]⟩ (D0 Tryz.f72 12)
noncomputable def agT:List V->VH->Option (Option Nat × List V × VH):=D1 (vb.ctx cv l6) (vb.b.G7 72) (vb.C7 72) ⟨⟨[0,3,17,18,19],[],[]⟩,[(.exit 0,⟨[0,3],[],[]⟩)]⟩ (D0 Tryz.f72 3)
theorem ajt (v0 v1 v2 v3 v4 v5 v6 v7:V) (H:VH):acW [v0,v1,v2,v3,v4,v5,v6,v7] H =
 (b7 (.int .i64) .lss v7 v6).bind fun x68 =>
 j3 x68 (
 (y8 1 v5 v7).bind fun x69 =>
 (y5 l5 false false 1 x69 H).bind fun r71 =>
 (qc B5 [(j4 r71.2 r71.1),(j4 r71.2 (.int .i64 1))]).bind fun x75 =>
 (b7 .str .add (.str [32]) x75).bind fun x76 =>
 (b7 .str .add v1 x76).bind fun x77 =>
 (b7 (.int .i64) .add v7 (.int .i64 1)).bind fun x79 =>
 some (none,[v0,x77,v2,v3,v4,v5,v6,x79],r71.2)) (
 some (some 0,[v0,v1,v2,v3,v4],H)):=by kernel_rfl
theorem aak (v0 v1 v2 v3 v4:V) (H:VH):agT [v0,v1,v2,v3,v4] H =
 (b7 (.int .i64) .lss v4 v3).bind fun x10 =>
 j3 x10 (
 (y8 3 v2 v4).bind fun x11 =>
 (y5 l5 false true 3 x11 H).bind fun r13 =>
 (C5 3 r13.1).bind fun c16 =>
 (B9 v0).bind fun x19 =>
 (y2 x19 7).bind fun x20 =>
 (y5 l5 false true 7 x20 r13.2).bind fun r22 =>
 (pc T9 [(j4 r22.2 (.agg [(strip (c16.getD 0 .g8)),(strip (c16.getD 1 .g8)),(strip (c16.getD 2 .g8))])),(j4 r22.2 (.str [103,97,116,101,46,101,120,97,109,112,108,101])),(j4 r22.2 r22.1)]).bind fun x23 =>
 (z7 x23 0).bind fun x25 =>
 (z7 (X9 0 x23) 1).bind fun x26 =>
 (C5 3 x25).bind fun c29 =>
 (E1 (.ptr r22.2.length 0) [(c29.getD 0 .g8),(c29.getD 1 .g8),(c29.getD 2 .g8)] (r22.2++[[(.str []),(.sl true []),(.sl true [])]])).bind fun H30 =>
 (C4 .not (strip x26)).bind fun x33 =>
 j3 x33 (
 (b7 .str .add v1 (.str [114,101,116,117,114,110,101,100,10])).bind fun x35 =>
 (b7 (.int .i64) .add v4 (.int .i64 1)).bind fun x37 =>
 some (none,[(strip v0),x35,v2,v3,x37],H30)) (
 (B9 (strip v0)).bind fun x40 =>
 (y2 x40 0).bind fun x41 =>
 (y5 l5 false false 1 x41 H30).bind fun r43 =>
 (y5 l5 true true 3 (.ptr r22.2.length 0) r43.2).bind fun r45 =>
 (pc aba [(j4 r45.2 r45.1)]).bind fun x46 =>
 (pc aaL [(j4 r45.2 r43.1),(j4 r45.2 x46)]).bind fun x47 =>
 (z7 x47 0).bind fun x49 =>
 (z7 (X9 0 x47) 1).bind fun x50 =>
 (z7 (X9 0 x47) 2).bind fun x51 =>
 (B9 (strip (strip v0))).bind fun x57 =>
 (y2 x57 0).bind fun x58 =>
 (y7 x49).bind fun y60 =>
 (E1 x58 [y60] r45.2).bind fun H61 =>
 (b7 .str .add v1 (.str [112,97,115,115,101,100])).bind fun x63 =>
 (y3 (strip (strip (strip x50)))).bind fun x66 =>
 (l6 acW [(strip (strip (strip v0))),x63,v2,v3,v4,(strip (strip (strip x50))),x66,(.int .i64 0)] H61).bind fun r81 =>
 C6 r81.1 [
 l4 5 r81.2.1 fun v82 =>
 (b7 .str .add (v82 1) (.str [10])).bind fun x84 =>
 (b7 (.int .i64) .add (v82 4) (.int .i64 1)).bind fun x86 =>
 some (none,[(v82 0),x84,(v82 2),(v82 3),x86],r81.2.2)])) (
 some (some 0,[v0,v1],H)):=by kernel_rfl
theorem agX (a0:V) (H:VH):cv O3 [a0] H =
 (B9 a0).bind fun x3 =>
 (y2 x3 1).bind fun x4 =>
 (y2 x4 5).bind fun x5 =>
 (y5 l5 false false 1 x5 H).bind fun r7 =>
 (y3 r7.1).bind fun x8 =>
 (l6 agT [(strip a0),(.str []),r7.1,x8,(.int .i64 0)] r7.2).bind fun r88 =>
 C6 r88.1 [
 l4 2 r88.2.1 fun v89 =>
 (B9 (v89 0)).bind fun x91 =>
 (y2 x91 1).bind fun x92 =>
 (y2 x92 5).bind fun x93 =>
 (E1 x93 [(.sl true [])] r88.2.2).bind fun H95 =>
 (b7 .str .add (v89 1) (.str [101,110,100,10])).bind fun x97 =>
 some (x97,H95)]:=(g9 vb _ _ _ rfl).trans (by kernel_rfl)
theorem amT (a0 a1 a2:V) (H:VH):cv T9 [a0,a1,a2] H =
 (C5 3 a0).bind fun c1 =>
 (C5 7 a2).bind fun c3 =>
 (id (
 (qco O9 H [(.agg [(strip (c1.getD 0 .g8)),(strip (c1.getD 1 .g8)),(strip (c1.getD 2 .g8))])]).bind fun x7 =>
 (C4 .not x7).bind fun x8 =>
 k9 x8 (
 some (0,[(.bool false),(.str []),(.sl true []),(.sl true [])],H)) (
 (qco O8 H [(.agg [(strip (c3.getD 0 .g8)),(strip (c3.getD 1 .g8)),(strip (c3.getD 2 .g8)),(strip (c3.getD 3 .g8)),(strip (c3.getD 4 .g8)),(strip (c3.getD 5 .g8)),(strip (c3.getD 6 .g8))])]).bind fun x21 =>
 (C4 .not x21).bind fun x22 =>
 k9 x22 (
 some (0,[(.bool false),(.str []),(.sl true []),(.sl true [])],H)) (
 (qco V4 H [a1]).bind fun x34 =>
 (C4 .not x34).bind fun x35 =>
 k9 x35 (
 some (0,[(.bool false),(.str []),(.sl true []),(.sl true [])],H)) (
 (y3 (strip (c1.getD 2 .g8))).bind fun x46 =>
 (b7 (.int .i64) .eql x46 (.int .i64 30)).bind fun x47 =>
 k9 x47 (
 some (0,[(.bool false),(.str []),(.sl true []),(.sl true [])],H)) (
 (qco ac3 H [(.agg [(strip (c1.getD 0 .g8)),(strip (c1.getD 1 .g8)),(strip (c1.getD 2 .g8))])]).bind fun x55 =>
 (b7 (.int .i64) .geq x55 (.int .i64 5)).bind fun x56 =>
 j3 x56 (
 some (0,[(.bool false),(.str []),(.sl true []),(.sl true [])],H)) (
 some (1,[(strip a1),(c1.getD 0 .g8),(c1.getD 1 .g8),(c1.getD 2 .g8),(c3.getD 0 .g8),(c3.getD 1 .g8),(c3.getD 2 .g8),(c3.getD 3 .g8),(c3.getD 4 .g8),(c3.getD 5 .g8),(c3.getD 6 .g8),(.str []),(.sl true []),(.sl true [])],H)))))):Option (Nat × List V × VH))).bind fun r61 =>
 C6 r61.1 [
 l4 4 r61.2.1 fun v62 =>
 some ((.n9 [(.agg [(v62 1),(v62 2),(v62 3)]),(v62 0)]),r61.2.2),
 l4 14 r61.2.1 fun v63 =>
 (pco aaC r61.2.2 [(.agg [(strip (v63 1)),(strip (v63 2)),(strip (v63 3))])]).bind fun x65 =>
 W8 1 x65 r61.2.2 fun o66 h67 =>
 (C5 3 o66).bind fun c70 =>
 (b7 .str .add (.str [82,101,99,101,105,118,101,100,58,32,98,121,32]) (v63 0)).bind fun x74 =>
 (b7 .str .add x74 (.str [59,32])).bind fun x75 =>
 (qco aa8 h67 [(.agg [(strip (v63 4)),(strip (v63 5)),(strip (v63 6)),(strip (v63 7)),(strip (v63 8)),(strip (v63 9)),(strip (v63 10))])]).bind fun x77 =>
 (b7 .str .add x75 x77).bind fun x78 =>
 (y7 x78).bind fun y80 =>
 (cv Q0 [(c70.getD 2 .g8),(.int .i64 0),(.sl true [[y80]])] h67).bind fun r82 =>
 (y7 r82.1).bind fun y85 =>
 some ((.n9 [(.agg [(c70.getD 0 .g8),(c70.getD 1 .g8),y85]),(.bool true)]),r82.2)]:=(g9 vb _ _ _ rfl).trans (by kernel_rfl)
theorem amj (a0:V) (H:VH):cv aa8 [a0] H =
 (C5 7 a0).bind fun c1 =>
 (qc O8 [(j4 H (.agg [(strip (c1.getD 0 .g8)),(strip (c1.getD 1 .g8)),(strip (c1.getD 2 .g8)),(strip (c1.getD 3 .g8)),(strip (c1.getD 4 .g8)),(strip (c1.getD 5 .g8)),(strip (c1.getD 6 .g8))]))]).bind fun x4 =>
 (C4 .not x4).bind fun x5 =>
 j3 x5 (
 some ((.str []),H)) (
 (id (
 (b7 (.int .i64) .lss (strip (c1.getD 6 .g8)) (.int .i64 0)).bind fun x12 =>
 j3 x12 (
 (C4 .neg (strip (strip (c1.getD 6 .g8)))).bind fun x14 =>
 some (0,[(.str [32,45]),x14,(c1.getD 0 .g8),(c1.getD 1 .g8),(c1.getD 2 .g8),(c1.getD 3 .g8),(c1.getD 4 .g8),(c1.getD 5 .g8),(c1.getD 6 .g8)],H)) (
 some (0,[(.str [32,43]),(strip (strip (c1.getD 6 .g8))),(c1.getD 0 .g8),(c1.getD 1 .g8),(c1.getD 2 .g8),(c1.getD 3 .g8),(c1.getD 4 .g8),(c1.getD 5 .g8),(c1.getD 6 .g8)],H)):Option (Nat × List V × VH))).bind fun r17 =>
 C6 r17.1 [
 l4 9 r17.2.1 fun v18 =>
 (qc adU [(j4 r17.2.2 (.agg [(strip (v18 2)),(strip (v18 3)),(strip (v18 4)),(strip (v18 5)),(strip (v18 6)),(strip (v18 7)),(strip (v18 8))]))]).bind fun x20 =>
 (b7 .str .add x20 (.str [44,32])).bind fun x21 =>
 (qc B5 [(j4 r17.2.2 (strip (v18 4))),(j4 r17.2.2 (.int .i64 1))]).bind fun x24 =>
 (b7 .str .add x21 x24).bind fun x25 =>
 (b7 .str .add x25 (.str [32])).bind fun x26 =>
 (b7 (.int .i64) .sub (strip (v18 3)) (.int .i64 1)).bind fun x29 =>
 (ajp 12 1 (.gp 0 0) x29).bind fun x30 =>
 (y5 l5 false false 1 x30 r17.2.2).bind fun r32 =>
 (b7 .str .add x26 r32.1).bind fun x33 =>
 (b7 .str .add x33 (.str [32])).bind fun x34 =>
 (qc B5 [(j4 r32.2 (strip (v18 2))),(j4 r32.2 (.int .i64 4))]).bind fun x37 =>
 (b7 .str .add x34 x37).bind fun x38 =>
 (b7 .str .add x38 (.str [32])).bind fun x39 =>
 (qc B5 [(j4 r32.2 (strip (v18 5))),(j4 r32.2 (.int .i64 2))]).bind fun x42 =>
 (b7 .str .add x39 x42).bind fun x43 =>
 (b7 .str .add x43 (.str [58])).bind fun x44 =>
 (qc B5 [(j4 r32.2 (strip (v18 6))),(j4 r32.2 (.int .i64 2))]).bind fun x47 =>
 (b7 .str .add x44 x47).bind fun x48 =>
 (b7 .str .add x48 (.str [58])).bind fun x49 =>
 (qc B5 [(j4 r32.2 (strip (v18 7))),(j4 r32.2 (.int .i64 2))]).bind fun x52 =>
 (b7 .str .add x49 x52).bind fun x53 =>
 (b7 .str .add x53 (v18 0)).bind fun x55 =>
 (b7 (.int .i64) .quo (v18 1) (.int .i64 60)).bind fun x57 =>
 (qc B5 [(j4 r32.2 x57),(j4 r32.2 (.int .i64 2))]).bind fun x58 =>
 (b7 .str .add x55 x58).bind fun x59 =>
 (b7 (.int .i64) .rem (strip (v18 1)) (.int .i64 60)).bind fun x61 =>
 (qc B5 [(j4 r32.2 x61),(j4 r32.2 (.int .i64 2))]).bind fun x62 =>
 (b7 .str .add x59 x62).bind fun x63 =>
 some (x63,r32.2)]):=(g9 vb _ _ _ rfl).trans (by kernel_rfl)
theorem amY (a0:V) (H:VH):cv adU [a0] H =
 (C5 7 a0).bind fun c1 =>
 (qc O8 [(j4 H (.agg [(strip (c1.getD 0 .g8)),(strip (c1.getD 1 .g8)),(strip (c1.getD 2 .g8)),(strip (c1.getD 3 .g8)),(strip (c1.getD 4 .g8)),(strip (c1.getD 5 .g8)),(strip (c1.getD 6 .g8))]))]).bind fun x4 =>
 (C4 .not x4).bind fun x5 =>
 j3 x5 (
 some ((.str []),H)) (
 (qc X6 [(j4 H (strip (c1.getD 0 .g8))),(j4 H (strip (c1.getD 1 .g8))),(j4 H (strip (c1.getD 2 .g8)))]).bind fun x14 =>
 (b7 (.int .i64) .rem x14 (.int .i64 7)).bind fun x15 =>
 (ahu 7 1 (.agg [(.str [84,104,117]),(.str [70,114,105]),(.str [83,97,116]),(.str [83,117,110]),(.str [77,111,110]),(.str [84,117,101]),(.str [87,101,100])]) x15).bind fun x16 =>
 some (x16,H)):=(g9 vb _ _ _ rfl).trans (by kernel_rfl)
noncomputable def aiD:List V->VH->Option (Option Nat × List V × VH):=D1 (vb.ctx cv l6) (vb.b.G7 17) (vb.C7 17) ⟨⟨[0,1,5],[],[]⟩,[(.exit 0,⟨[5],[],[]⟩)]⟩ (D0 Tryz.f17 2)
theorem ak7 (v0 v1 v2:V) (H:VH):aiD [v0,v1,v2] H =
 (id (
 (b7 (.int .i64) .gtr v0 (.int .i64 0)).bind fun x3 =>
 k9 x3 (
 some (0,[(strip v0),v1,v2],H)) (
 (b7 (.int .i64) .gtr v1 (.int .i64 0)).bind fun x7 =>
 j3 x7 (
 some (0,[(strip v0),(strip v1),v2],H)) (
 some (1,[v2],H))):Option (Nat × List V × VH))).bind fun r9 =>
 C6 r9.1 [
 l4 3 r9.2.1 fun v10 =>
 (b7 (.int .i64) .rem (v10 0) (.int .i64 10)).bind fun x12 =>
 (b7 (.int .i64) .rem (strip (v10 0)) (.int .i64 10)).bind fun x14 =>
 (b7 (.int .i64) .add x14 (.int .i64 1)).bind fun x15 =>
 (C9 (.str [48,49,50,51,52,53,54,55,56,57]) (some x12) (some x15)).bind fun x16 =>
 (b7 .str .add x16 (v10 2)).bind fun x18 =>
 (b7 (.int .i64) .quo (strip (strip (v10 0))) (.int .i64 10)).bind fun x21 =>
 (b7 (.int .i64) .sub (v10 1) (.int .i64 1)).bind fun x24 =>
 some (none,[x21,x24,x18],r9.2.2),
 l4 1 r9.2.1 fun v26 =>
 some (some 0,[(v26 0)],r9.2.2)]:=by kernel_rfl
theorem apS (a0 a1:V) (H:VH):cv B5 [a0,a1] H =
 (l6 aiD [a0,a1,(.str [])] H).bind fun r27 =>
 C6 r27.1 [
 l4 1 r27.2.1 fun v28 =>
 some ((v28 0),r27.2.2)]:=(g9 vb _ _ _ rfl).trans (by kernel_rfl)
noncomputable def af5:List V->VH->Option (Option Nat × List V × VH):=D1 (vb.ctx cv l6) (vb.b.G7 109) (vb.C7 109) ⟨⟨[3,13,14,15],[(2,(2,0))],[(2,3)]⟩,[(.exit 0,⟨[3],[(2,(2,0))],[(2,3)]⟩)]⟩ (D0 Tryz.f109 3)
theorem aji (v0 v1 v2 v3 v4 v5 v6:V) (H:VH):af5 [v0,v1,v2,v3,v4,v5,v6] H =
 (b7 (.int .i64) .lss v3 v2).bind fun x18 =>
 j3 x18 (
 (y8 1 v1 v3).bind fun x19 =>
 (y5 l5 false false 1 x19 H).bind fun r21 =>
 (y2 v0 1).bind fun x23 =>
 (y5 l5 false false 1 x23 r21.2).bind fun r25 =>
 (qc O0 [(j4 r25.2 r25.1),(j4 r25.2 r21.1)]).bind fun x27 =>
 (C4 .not x27).bind fun x28 =>
 j3 x28 (
 (y2 v0 1).bind fun x29 =>
 (y5 l5 true false 1 x29 r25.2).bind fun r31 =>
 (y7 (strip r21.1)).bind fun y34 =>
 (S6 r31.1).bind fun s36 =>
 (F8 false 1 16 s36 (.sl true [[y34]])).bind fun x35 =>
 (y2 v0 1).bind fun x37 =>
 (y7 x35).bind fun y39 =>
 (E1 x37 [y39] r31.2).bind fun H40 =>
 (b7 (.int .i64) .add v3 (.int .i64 1)).bind fun x41 =>
 some (none,[v0,v1,v2,x41,v4,v5,v6],H40)) (
 (b7 (.int .i64) .add v3 (.int .i64 1)).bind fun x43 =>
 some (none,[v0,v1,v2,x43,v4,v5,v6],r25.2))) (
 some (some 0,[v0,v4,v5,v6],H)):=by kernel_rfl
theorem alF (a0:V) (H:VH):cv aba [a0] H =
 (C5 3 a0).bind fun c1 =>
 (pc E6 [(j4 H (strip (c1.getD 2 .g8)))]).bind fun x7 =>
 (y7 (strip (c1.getD 0 .g8))).bind fun y9 =>
 (y7 x7).bind fun y10 =>
 (E1 (.ptr H.length 0) [y9,(.sl true []),y10] (H++[[(.str []),(.sl true []),(.sl true [])]])).bind fun H13 =>
 (y3 (strip (c1.getD 1 .g8))).bind fun x16 =>
 (l6 af5 [(.ptr H.length 0),(strip (c1.getD 1 .g8)),x16,(.int .i64 0),(.str []),(.sl true []),(.sl true [])] H13).bind fun r45 =>
 C6 r45.1 [
 l4 4 r45.2.1 fun v46 =>
 (y5 l5 true true 3 (v46 0) r45.2.2).bind fun r48 =>
 (C5 3 r48.1).bind fun c50 =>
 some ((.agg [(c50.getD 0 .g8),(c50.getD 1 .g8),(c50.getD 2 .g8)]),r48.2)]:=(g9 vb _ _ _ rfl).trans (by kernel_rfl)
theorem adI (a0 a1:V) (H:VH):cv O0 [a0,a1] H =
 (qc R7 [(j4 H (strip a0)),(j4 H a1)]).bind fun x3 =>
 (b7 (.int .i64) .geq x3 (.int .i64 0)).bind fun x4 =>
 some (x4,H):=(g9 vb _ _ _ rfl).trans (by kernel_rfl)
noncomputable def L0:List V->VH->Option (Option Nat × List V × VH):=D1 (vb.ctx cv l6) (vb.b.G7 191) (vb.C7 191) ⟨⟨[0,1,7,8],[],[]⟩,[(.exit 0,⟨[],[],[]⟩),(.ret,⟨[4],[],[]⟩)]⟩ (D0 Tryz.f191 2)
theorem Y8 (v0 v1 v2 v3:V) (H:VH):L0 [v0,v1,v2,v3] H =
 (b7 (.int .i64) .lss v3 v2).bind fun x4 =>
 j3 x4 (
 (y8 1 (strip v0) v3).bind fun x10 =>
 (y5 l5 false false 1 x10 H).bind fun r12 =>
 (b7 .str .eql v1 r12.1).bind fun x13 =>
 j3 x13 (
 some (some 1,[(strip v3)],r12.2)) (
 (b7 (.int .i64) .add (strip v3) (.int .i64 1)).bind fun x16 =>
 some (none,[v0,(strip v1),v2,x16],r12.2))) (
 some (some 0,[],H)):=by kernel_rfl
theorem aeu (a0 a1:V) (H:VH):cv R7 [a0,a1] H =
 (y3 (strip a0)).bind fun x2 =>
 (l6 L0 [a0,a1,x2,(.int .i64 0)] H).bind fun r18 =>
 C6 r18.1 [
 l4 0 r18.2.1 fun v19 =>
 some ((.int .i64 (-1)),r18.2.2),
 l4 1 r18.2.1 fun v21 =>
 some ((v21 0),r18.2.2)]:=(g9 vb _ _ _ rfl).trans (by kernel_rfl)
noncomputable def acJ:List V->VH->Option (Option Nat × List V × VH):=D1 (vb.ctx cv l6) (vb.b.G7 108) (vb.C7 108) ⟨⟨[7,8,25,26,27],[(3,(3,0))],[(3,3)]⟩,[(.exit 0,⟨[7,8],[],[]⟩)]⟩ (D0 Tryz.f108 5)
theorem aiQ (v0 v1 v2 v3 v4 v5 v6 v7:V) (H:VH):acJ [v0,v1,v2,v3,v4,v5,v6,v7] H =
 (b7 (.int .i64) .lss v4 v3).bind fun x34 =>
 j3 x34 (
 (y8 1 v2 v4).bind fun x35 =>
 (y5 l5 false false 1 x35 H).bind fun r37 =>
 (qco V9 r37.2 [(strip v0),r37.1]).bind fun x41 =>
 (z7 x41 0).bind fun x43 =>
 (z7 x41 1).bind fun x44 =>
 (C4 .not (strip x44)).bind fun x48 =>
 j3 x48 (
 (agu false false 1 8 v1 (.sl true [[(.int .i64 550)]]) r37.2).bind fun r53 =>
 (b7 (.int .i64) .add v4 (.int .i64 1)).bind fun x55 =>
 some (none,[v0,r53.1,v2,v3,x55,v5,v6,v7],r53.2)) (
 (y8 2 (strip v0) (strip x43)).bind fun x59 =>
 (y2 x59 1).bind fun x60 =>
 (y5 l5 false false 1 x60 r37.2).bind fun r62 =>
 (y3 r62.1).bind fun x63 =>
 (b7 (.int .i64) .eql x63 (.int .i64 4)).bind fun x64 =>
 j3 x64 (
 (agu false false 1 8 v1 (.sl true [[(.int .i64 452)]]) r62.2).bind fun r69 =>
 (b7 (.int .i64) .add v4 (.int .i64 1)).bind fun x71 =>
 some (none,[v0,r69.1,v2,v3,x71,v5,v6,v7],r69.2)) (
 (y8 2 (strip v0) (strip (strip (strip x43)))).bind fun x77 =>
 (y2 x77 1).bind fun x78 =>
 (y5 l5 true false 1 x78 r62.2).bind fun r80 =>
 (y7 (strip r37.1)).bind fun y85 =>
 (pco E6 r80.2 [(strip v7)]).bind fun x88 =>
 (y7 (strip v5)).bind fun y90 =>
 (y7 x88).bind fun y91 =>
 (agu false false 3 64 r80.1 (.sl true [[y90,(.sl true [[y85]]),y91]]) r80.2).bind fun r94 =>
 (y8 2 (strip v0) (strip (strip x43))).bind fun x95 =>
 (y2 x95 1).bind fun x96 =>
 (y7 r94.1).bind fun y98 =>
 (E1 x96 [y98] r94.2).bind fun H99 =>
 (agu false false 1 8 v1 (.sl true [[(.int .i64 250)]]) H99).bind fun r103 =>
 (b7 (.int .i64) .add v4 (.int .i64 1)).bind fun x105 =>
 some (none,[v0,r103.1,v2,v3,x105,v5,v6,v7],r103.2)))) (
 some (some 0,[v0,v1],H)):=by kernel_rfl
theorem ak5 (a0 a1:V) (H:VH):cv aaL [a0,a1] H =
 (C5 3 a1).bind fun c1 =>
 (id (
 (qco X5 H [(strip a0)]).bind fun x6 =>
 (C4 .not x6).bind fun x7 =>
 k9 x7 (
 some (0,[(.sl true []),(.sl true []),(.bool false)],H)) (
 (qco O9 H [(.agg [(strip (c1.getD 0 .g8)),(strip (c1.getD 1 .g8)),(strip (c1.getD 2 .g8))])]).bind fun x14 =>
 (C4 .not x14).bind fun x15 =>
 j3 x15 (
 some (0,[(.sl true []),(.sl true []),(.bool false)],H)) (
 some (1,[a0,(c1.getD 0 .g8),(c1.getD 1 .g8),(c1.getD 2 .g8)],H))):Option (Nat × List V × VH))).bind fun r20 =>
 C6 r20.1 [
 l4 3 r20.2.1 fun v21 =>
 some ((.n9 [(v21 0),(v21 1),(v21 2)]),r20.2.2),
 l4 4 r20.2.1 fun v22 =>
 (pco T7 r20.2.2 [(strip (v22 0))]).bind fun x24 =>
 W8 1 x24 r20.2.2 fun o25 h26 =>
 (y3 (strip (v22 2))).bind fun x32 =>
 (l6 acJ [o25,(.sl true []),(strip (v22 2)),x32,(.int .i64 0),(v22 1),(v22 2),(v22 3)] h26).bind fun r107 =>
 C6 r107.1 [
 l4 2 r107.2.1 fun v108 =>
 some ((.n9 [(v108 0),(v108 1),(.bool true)]),r107.2.2)]]:=(g9 vb _ _ _ rfl).trans (by kernel_rfl)
noncomputable def aa3:List V->VH->Option (Option Nat × List V × VH):=D1 (vb.ctx cv l6) (vb.b.G7 77) (vb.C7 77) ⟨⟨[0,5,6,7],[],[]⟩,[(.exit 0,⟨[0],[],[]⟩),(.ret,⟨[2],[],[]⟩)]⟩ (D0 Tryz.f77 2)
theorem aeN (v0 v1 v2 v3:V) (H:VH):aa3 [v0,v1,v2,v3] H =
 (b7 (.int .i64) .lss v3 v2).bind fun x4 =>
 j3 x4 (
 (y8 2 v1 (strip v3)).bind fun x6 =>
 (y5 l5 false true 2 x6 H).bind fun r8 =>
 (C5 2 r8.1).bind fun c12 =>
 (qc aaw [(j4 r8.2 (strip (c12.getD 0 .g8)))]).bind fun x15 =>
 (C4 .not x15).bind fun x16 =>
 k9 x16 (
 some (some 1,[(.bool false)],r8.2)) (
 (qc aa1 [(j4 r8.2 (strip (c12.getD 1 .g8))),(j4 r8.2 (.int .i64 4))]).bind fun x24 =>
 (C4 .not x24).bind fun x25 =>
 k9 x25 (
 some (some 1,[(.bool false)],r8.2)) (
 (b7 (.int .i64) .gtr v3 (.int .i64 0)).bind fun x31 =>
 k9 x31 (
 (b7 (.int .i64) .sub (strip v3) (.int .i64 1)).bind fun x35 =>
 (y8 2 (strip v0) x35).bind fun x36 =>
 (y2 x36 0).bind fun x37 =>
 (y5 l5 false false 1 x37 r8.2).bind fun r39 =>
 (b7 .str .geq r39.1 (strip (c12.getD 0 .g8))).bind fun x42 =>
 j3 x42 (
 some (some 1,[(.bool false)],r39.2)) (
 (b7 (.int .i64) .add (strip v3) (.int .i64 1)).bind fun x46 =>
 some (none,[v0,v1,v2,x46],r39.2))) (
 (b7 (.int .i64) .add (strip v3) (.int .i64 1)).bind fun x50 =>
 some (none,[v0,v1,v2,x50],r8.2))))) (
 some (some 0,[v0],H)):=by kernel_rfl
theorem als (a0:V) (H:VH):cv X5 [a0] H =
 (y3 (strip a0)).bind fun x2 =>
 (l6 aa3 [a0,(strip a0),x2,(.int .i64 0)] H).bind fun r52 =>
 C6 r52.1 [
 l4 1 r52.2.1 fun v53 =>
 (y3 (strip (v53 0))).bind fun x55 =>
 (b7 (.int .i64) .leq x55 (.int .i64 8)).bind fun x56 =>
 some (x56,r52.2.2),
 l4 1 r52.2.1 fun v58 =>
 some ((v58 0),r52.2.2)]:=(g9 vb _ _ _ rfl).trans (by kernel_rfl)
noncomputable def agV:List V->VH->Option (Option Nat × List V × VH):=D1 (vb.ctx cv l6) (vb.b.G7 80) (vb.C7 80) ⟨⟨[3,7,8,9],[],[]⟩,[(.exit 0,⟨[3],[],[]⟩)]⟩ (D0 Tryz.f80 3)
theorem ajJ (v0 v1 v2 v3:V) (H:VH):agV [v0,v1,v2,v3] H =
 (b7 (.int .i64) .lss v3 v2).bind fun x6 =>
 j3 x6 (
 (y8 2 v1 v3).bind fun x7 =>
 (y5 l5 true true 2 x7 H).bind fun r9 =>
 (C5 2 r9.1).bind fun c12 =>
 (pc Z5 [(j4 r9.2 (strip (c12.getD 1 .g8)))]).bind fun x18 =>
 (y7 (strip (c12.getD 0 .g8))).bind fun y20 =>
 (y7 x18).bind fun y21 =>
 (S6 v0).bind fun s24 =>
 (F8 false 2 40 s24 (.sl true [[y20,y21]])).bind fun x23 =>
 (b7 (.int .i64) .add v3 (.int .i64 1)).bind fun x26 =>
 some (none,[x23,v1,v2,x26],r9.2)) (
 some (some 0,[v0],H)):=by kernel_rfl
theorem amW (a0:V) (H:VH):cv T7 [a0] H =
 (y3 (strip a0)).bind fun x4 =>
 (l6 agV [(.sl true []),(strip a0),x4,(.int .i64 0)] H).bind fun r28 =>
 C6 r28.1 [
 l4 1 r28.2.1 fun v29 =>
 some ((v29 0),r28.2.2)]:=(g9 vb _ _ _ rfl).trans (by kernel_rfl)
theorem aow (a0 a1:V) (H:VH):cv V9 [a0,a1] H =
 (qc D3 [(j4 H (strip a0)),(j4 H a1),(j4 H (.fn K7 []))]).bind fun x4 =>
 (z7 x4 0).bind fun x5 =>
 (z7 x4 1).bind fun x6 =>
 some ((.n9 [(strip x5),(strip x6)]),H):=(g9 vb _ _ _ rfl).trans (by kernel_rfl)
noncomputable def K5:List V->VH->Option (Option Nat × List V × VH):=D1 (vb.ctx cv l6) (vb.b.G7 113) (vb.C7 113) ⟨⟨[0,1,2,8,9,10],[],[]⟩,[(.exit 0,⟨[0,1,2,8,9],[],[]⟩)]⟩ (D0 Tryz.f113 3)
theorem V0 (v0 v1 v2 v3 v4 v5:V) (H:VH):K5 [v0,v1,v2,v3,v4,v5] H =
 (b7 (.int .i64) .lss v4 v5).bind fun x10 =>
 j3 x10 (
 (b7 (.int .i64) .add (strip v4) (strip v5)).bind fun x13 =>
 (aaX .u64 x13).bind fun x14 =>
 (b7 (.int .u64) .shr x14 (.int .u64 1)).bind fun x15 =>
 (aaX .i64 x15).bind fun x16 =>
 (y8 2 (strip v0) x16).bind fun x21 =>
 (y5 l5 false true 2 x21 H).bind fun r23 =>
 (aeQ v2).bind fun p26 =>
 (qc p26.1 ((([r23.1,v1]:List V)++p26.2).map (j4 r23.2))).bind fun x25 =>
 (b7 (.int .i64) .lss x25 (.int .i64 0)).bind fun x27 =>
 j3 x27 (
 (b7 (.int .i64) .add (strip x16) (.int .i64 1)).bind fun x29 =>
 some (none,[v0,(strip v1),(strip v2),v3,x29,(strip (strip v5))],r23.2)) (
 some (none,[v0,(strip v1),(strip v2),v3,(strip (strip v4)),(strip x16)],r23.2))) (
 some (some 0,[v0,v1,v2,v3,(strip v4)],H)):=by kernel_rfl
theorem X7 (a0 a1 a2:V) (H:VH):cv D3 [a0,a1,a2] H =
 (y3 (strip a0)).bind fun x3 =>
 (l6 K5 [a0,a1,a2,(strip x3),(.int .i64 0),x3] H).bind fun r33 =>
 C6 r33.1 [
 l4 5 r33.2.1 fun v34 =>
 (b7 (.int .i64) .lss (strip (v34 4)) (v34 3)).bind fun x38 =>
 k9 x38 (
 (y8 2 (strip (v34 0)) (strip (strip (v34 4)))).bind fun x43 =>
 (y5 l5 false true 2 x43 r33.2.2).bind fun r45 =>
 (aeQ (v34 2)).bind fun p48 =>
 (qc p48.1 ((([r45.1,(v34 1)]:List V)++p48.2).map (j4 r45.2))).bind fun x47 =>
 (b7 (.int .i64) .eql x47 (.int .i64 0)).bind fun x49 =>
 some ((.n9 [(v34 4),x49]),r45.2)) (
 some ((.n9 [(v34 4),(.bool false)]),r33.2.2))]:=(g9 vb _ _ _ rfl).trans (by kernel_rfl)
theorem alT (a0 a1:V) (H:VH):cv K7 [a0,a1] H =
 (C5 2 a0).bind fun c1 =>
 (qc abk [(j4 H (strip (c1.getD 0 .g8))),(j4 H a1)]).bind fun x6 =>
 some (x6,H):=(g9 vb _ _ _ rfl).trans (by kernel_rfl)
theorem aiU (a0 a1:V) (H:VH):cv abk [a0,a1] H =
 (qc aag [(j4 H a0)]).bind fun x2 =>
 (qc aag [(j4 H a1)]).bind fun x5 =>
 j3 x2 (
 j3 x5 (
 some ((.int .i64 0),H)) (
 some ((.int .i64 (-1)),H))) (
 j3 x5 (
 some ((.int .i64 1),H)) (
 (b7 .str .lss (strip a0) (strip a1)).bind fun x15 =>
 j3 x15 (
 some ((.int .i64 (-1)),H)) (
 (b7 .str .gtr (strip (strip a0)) (strip (strip a1))).bind fun x19 =>
 j3 x19 (
 some ((.int .i64 1),H)) (
 some ((.int .i64 0),H))))):=(g9 vb _ _ _ rfl).trans (by kernel_rfl)
theorem ajQ (a0:V) (H:VH):cv aag [a0] H =
 (b7 .str .neq a0 (strip a0)).bind fun x3 =>
 some (x3,H):=(g9 vb _ _ _ rfl).trans (by kernel_rfl)
theorem aqV (a0 a1:V) (H:VH):cv abU [a0,a1] H =
 (qco V9 H [(strip a0),a1]).bind fun x4 =>
 (z7 x4 0).bind fun x6 =>
 (z7 x4 1).bind fun x7 =>
 (id (
 (qco X5 H [(strip a0)]).bind fun x11 =>
 (C4 .not x11).bind fun x12 =>
 k9 x12 (
 some (0,[(.sl true []),(.bool false)],H)) (
 (qco aaw H [(strip a1)]).bind fun x22 =>
 (C4 .not x22).bind fun x23 =>
 k9 x23 (
 some (0,[(.sl true []),(.bool false)],H)) (
 k9 (strip x7) (
 some (0,[(.sl true []),(.bool false)],H)) (
 (y3 (strip a0)).bind fun x38 =>
 (b7 (.int .i64) .eql x38 (.int .i64 8)).bind fun x39 =>
 j3 x39 (
 some (0,[(.sl true []),(.bool false)],H)) (
 some (1,[a0,(strip (strip a1)),(strip x6)],H))))):Option (Nat × List V × VH))).bind fun r43 =>
 C6 r43.1 [
 l4 2 r43.2.1 fun v44 =>
 some ((.n9 [(v44 0),(v44 1)]),r43.2.2),
 l4 3 r43.2.1 fun v45 =>
 (pco T7 r43.2.2 [(strip (v45 0))]).bind fun x47 =>
 W8 1 x47 r43.2.2 fun o48 h49 =>
 (y7 (v45 1)).bind fun y53 =>
 (cv M8 [o48,(strip (v45 2)),(.sl true [[y53,(.sl true [])]])] h49).bind fun r56 =>
 some ((.n9 [r56.1,(.bool true)]),r56.2)]:=(g9 vb _ _ _ rfl).trans (by kernel_rfl)
noncomputable def agL:List V->VH->Option (Option Nat × List V × VH):=D1 (vb.ctx cv l6) (vb.b.G7 52) (vb.C7 52) ⟨⟨[8,32,33,34],[],[]⟩,[(.exit 0,⟨[8],[],[]⟩)]⟩ (D0 Tryz.f52 7)
theorem akA (v0 v1 v2 v3:V) (H:VH):agL [v0,v1,v2,v3] H =
 (b7 (.int .i64) .lss v3 v2).bind fun x36 =>
 j3 x36 (
 (y8 1 v1 v3).bind fun x37 =>
 (y5 l5 false false 1 x37 H).bind fun r39 =>
 (b7 .str .add (.str [62,32]) r39.1).bind fun x43 =>
 (b7 .str .add x43 (.str [10])).bind fun x44 =>
 (b7 .str .add v0 x44).bind fun x45 =>
 (b7 (.int .i64) .add v3 (.int .i64 1)).bind fun x47 =>
 some (none,[x45,v1,v2,x47],r39.2)) (
 some (some 0,[v0],H)):=by kernel_rfl
theorem am5 (a0 a1:V) (H:VH):cv aaa [a0,a1] H =
 (B9 a0).bind fun x2 =>
 (y2 x2 0).bind fun x3 =>
 (y5 l5 false false 1 x3 H).bind fun r5 =>
 (pc L1 [(j4 r5.2 r5.1),(j4 r5.2 a1)]).bind fun x7 =>
 (z7 x7 0).bind fun x9 =>
 (z7 (X9 0 x7) 1).bind fun x10 =>
 (z7 (X9 0 x7) 2).bind fun x11 =>
 (C5 3 (strip x10)).bind fun c15 =>
 (C4 .not (strip x11)).bind fun x18 =>
 j3 x18 (
 some ((.str [119,104,97,116,10]),r5.2)) (
 (B9 (strip a0)).bind fun x22 =>
 (y2 x22 0).bind fun x23 =>
 (y7 x9).bind fun y25 =>
 (E1 x23 [y25] r5.2).bind fun H26 =>
 (b7 .str .add (.str [102,114,111,109,32,60]) (strip (c15.getD 0 .g8))).bind fun x29 =>
 (b7 .str .add x29 (.str [62,10])).bind fun x30 =>
 (y3 (strip (c15.getD 2 .g8))).bind fun x34 =>
 (l6 agL [x30,(strip (c15.getD 2 .g8)),x34,(.int .i64 0)] H26).bind fun r49 =>
 C6 r49.1 [
 l4 1 r49.2.1 fun v50 =>
 (b7 .str .add (v50 0) (.str [101,110,100,10])).bind fun x52 =>
 some (x52,r49.2.2)]):=(g9 vb _ _ _ rfl).trans (by kernel_rfl)
theorem acs (a0 a1:V) (H:VH):cv L1 [a0,a1] H =
 (qco V9 H [(strip a0),a1]).bind fun x5 =>
 (z7 x5 0).bind fun x7 =>
 (z7 x5 1).bind fun x8 =>
 (id (
 (qco X5 H [(strip a0)]).bind fun x12 =>
 (C4 .not x12).bind fun x13 =>
 k9 x13 (
 some (0,[(.sl true []),(.bool false),(.str []),(.sl true []),(.sl true [])],H)) (
 (C4 .not (strip x8)).bind fun x23 =>
 k9 x23 (
 some (0,[(.sl true []),(.bool false),(.str []),(.sl true []),(.sl true [])],H)) (
 (y8 2 (strip a0) (strip x7)).bind fun x33 =>
 (y2 x33 1).bind fun x34 =>
 (y5 l5 false false 1 x34 H).bind fun r36 =>
 (y3 r36.1).bind fun x37 =>
 (b7 (.int .i64) .eql x37 (.int .i64 0)).bind fun x38 =>
 j3 x38 (
 some (0,[(.sl true []),(.bool false),(.str []),(.sl true []),(.sl true [])],r36.2)) (
 some (1,[a0,(strip (strip x7)),(.str []),(.sl true []),(.sl true [])],r36.2)))):Option (Nat × List V × VH))).bind fun r44 =>
 C6 r44.1 [
 l4 5 r44.2.1 fun v45 =>
 some ((.n9 [(v45 0),(.agg [(v45 2),(v45 3),(v45 4)]),(v45 1)]),r44.2.2),
 l4 5 r44.2.1 fun v46 =>
 (pco T7 r44.2.2 [(strip (v46 0))]).bind fun x48 =>
 W8 2 x48 r44.2.2 fun o49 h50 =>
 (y8 2 (strip o49) (v46 1)).bind fun x54 =>
 (y2 x54 1).bind fun x55 =>
 (y5 l5 false false 1 x55 h50).bind fun r57 =>
 (y8 3 r57.1 (.int .i64 0)).bind fun x58 =>
 (y5 l5 true true 3 x58 r57.2).bind fun r60 =>
 (C5 3 r60.1).bind fun c63 =>
 (y8 2 (strip o49) (strip (strip (v46 1)))).bind fun x68 =>
 (y2 x68 1).bind fun x69 =>
 (y5 l5 false false 1 x69 r60.2).bind fun r71 =>
 (cv L5 [(strip r71.1),(.int .i64 0),(.int .i64 1)] r71.2).bind fun r73 =>
 (y8 2 (strip o49) (strip (v46 1))).bind fun x74 =>
 (y2 x74 1).bind fun x75 =>
 (y7 r73.1).bind fun y77 =>
 (E1 x75 [y77] r73.2).bind fun H78 =>
 some ((.n9 [o49,(.agg [(c63.getD 0 .g8),(c63.getD 1 .g8),(c63.getD 2 .g8)]),(.bool true)]),H78)]:=(g9 vb _ _ _ rfl).trans (by kernel_rfl)
end Go.Proofs.YtaapfgpeeghmeaaGreatDoor.Q
