/- What a call of each function comes to. -/
import Derived.Test.YtpbgpeojlfdpoaaGreatDoorExactTraceMailBaseZ
namespace Go.Proofs.YtpbgpeojlfdpoaaGreatDoor.Q
open Go Go.AM Go.Proofs
set_option linter.unusedVariables false
set_option maxRecDepth 100000
theorem afs (a0 a1 a2:V) (H:VH):cv S5 [a0,a1,a2] H =
 (B3 3 a0).bind fun c1 =>
 (B3 7 a2).bind fun c3 =>
 (A0 a1).bind fun x6 =>
 (b9 (.int .i64) .gtr x6 (.int .i64 1048576)).bind fun x7 =>
 l4 x7 (
 some ((.bool true),H)) (
 (qco Y5 H [(.agg [(strip (c1.getD 0 .g8)),(strip (c1.getD 1 .g8)),(strip (c1.getD 2 .g8))]),(.int .i64 1048576)]).bind fun x12 =>
 (b9 (.int .i64) .lss x12 (.int .i64 0)).bind fun x15 =>
 l4 x15 (
 some ((.bool true),H)) (
 (cv S0 [(.agg [(strip (strip (c1.getD 0 .g8))),(strip (strip (c1.getD 1 .g8))),(strip (strip (c1.getD 2 .g8)))])] H).bind fun r19 =>
 (cv Y6 [(.agg [(strip (strip (c3.getD 0 .g8))),(strip (strip (c3.getD 1 .g8))),(strip (strip (c3.getD 2 .g8))),(strip (strip (c3.getD 3 .g8))),(strip (strip (c3.getD 4 .g8))),(strip (strip (c3.getD 5 .g8))),(strip (strip (c3.getD 6 .g8)))])] r19.2).bind fun r23 =>
 (pco W4 r23.2 [r19.1,(strip a1),r23.1]).bind fun x24 =>
 (J7 x24 0).bind fun x26 =>
 (J7 x24 1).bind fun x27 =>
 (B3 3 (strip x26)).bind fun c30 =>
 (cv S0 [(.agg [(strip (strip (c1.getD 0 .g8))),(strip (strip (c1.getD 1 .g8))),(strip (strip (c1.getD 2 .g8)))])] r23.2).bind fun r34 =>
 (B3 3 r34.1).bind fun c37 =>
 (cv Y6 [(.agg [(strip (strip (c3.getD 0 .g8))),(strip (strip (c3.getD 1 .g8))),(strip (strip (c3.getD 2 .g8))),(strip (strip (c3.getD 3 .g8))),(strip (strip (c3.getD 4 .g8))),(strip (strip (c3.getD 5 .g8))),(strip (strip (c3.getD 6 .g8)))])] r34.2).bind fun r42 =>
 (pcg D8 r42.2 [(.agg [(strip (c37.getD 0 .g8)),(strip (c37.getD 1 .g8)),(strip (c37.getD 2 .g8))]),(strip (strip a1)),r42.1]).bind fun r44 =>
 (J7 r44.1 0).bind fun x46 =>
 (J7 r44.1 1).bind fun x47 =>
 (B3 3 (strip x46)).bind fun c50 =>
 (id (
 (qco K6 r44.2 [(.agg [(strip (c50.getD 0 .g8)),(strip (c50.getD 1 .g8)),(strip (c50.getD 2 .g8))]),(.agg [(strip (c30.getD 0 .g8)),(strip (c30.getD 1 .g8)),(strip (c30.getD 2 .g8))])]).bind fun x54 =>
 (E7 .not x54).bind fun x55 =>
 j8 x55 (
 some (0,[(.bool false)],r44.2)) (
 (b9 .bool .neq (strip x47) (strip x27)).bind fun x61 =>
 l4 x61 (
 some (0,[(.bool false)],r44.2)) (
 some (1,[(strip (strip (strip a1))),(strip (strip x27)),(strip (strip x47)),(c1.getD 0 .g8),(c1.getD 1 .g8),(c1.getD 2 .g8),(c3.getD 0 .g8),(c3.getD 1 .g8),(c3.getD 2 .g8),(c3.getD 3 .g8),(c3.getD 4 .g8),(c3.getD 5 .g8),(c3.getD 6 .g8),(c30.getD 0 .g8),(c30.getD 1 .g8),(c30.getD 2 .g8),(c37.getD 0 .g8),(c37.getD 1 .g8),(c37.getD 2 .g8),(c50.getD 0 .g8),(c50.getD 1 .g8),(c50.getD 2 .g8)],r44.2))):Option (Nat × List V × VH))).bind fun r64 =>
 C2 r64.1 [
 m6 1 r64.2.1 fun v65 =>
 some ((v65 0),r64.2.2),
 m6 22 r64.2.1 fun v66 =>
 (cv S0 [(.agg [(strip (strip (v66 3))),(strip (strip (v66 4))),(strip (strip (v66 5)))])] r64.2.2).bind fun r70 =>
 (qco K6 r70.2 [(.agg [(strip (v66 16)),(strip (v66 17)),(strip (v66 18))]),r70.1]).bind fun x71 =>
 (E7 .not x71).bind fun x72 =>
 l4 x72 (
 some ((.bool false),r70.2)) (
 (cv aaq [(.agg [(strip (strip (v66 16))),(strip (strip (v66 17))),(strip (strip (v66 18)))]),(.int .i64 1)] r70.2).bind fun r78 =>
 (id (
 (b9 (.int .i64) .lss r78.1 (.int .i64 0)).bind fun x81 =>
 j8 x81 (
 some (0,[(.bool false)],r78.2)) (
 (qco K6 r78.2 [(.agg [(strip (v66 19)),(strip (v66 20)),(strip (v66 21))]),(.agg [(strip (v66 13)),(strip (v66 14)),(strip (v66 15))])]).bind fun x89 =>
 (E7 .not x89).bind fun x90 =>
 j8 x90 (
 some (0,[(.bool false)],r78.2)) (
 (b9 .bool .neq (v66 2) (v66 1)).bind fun x97 =>
 l4 x97 (
 some (0,[(.bool false)],r78.2)) (
 some (1,[(v66 0),(strip (v66 1)),(v66 3),(v66 4),(v66 5),(v66 6),(v66 7),(v66 8),(v66 9),(v66 10),(v66 11),(v66 12),(v66 13),(v66 14),(v66 15),(v66 19),(v66 20),(v66 21)],r78.2)))):Option (Nat × List V × VH))).bind fun r100 =>
 C2 r100.1 [
 m6 1 r100.2.1 fun v101 =>
 some ((v101 0),r100.2.2),
 m6 18 r100.2.1 fun v102 =>
 (cv aaq [(.agg [(strip (strip (v102 15))),(strip (strip (v102 16))),(strip (strip (v102 17)))]),(.int .i64 1)] r100.2.2).bind fun r107 =>
 (qco S3 r107.2 [(.agg [(strip (v102 15)),(strip (v102 16)),(strip (v102 17))]),(.int .i64 1)]).bind fun x112 =>
 (b9 (.int .i64) .lss x112 (.int .i64 0)).bind fun x115 =>
 l4 x115 (
 some ((.bool false),r107.2)) (
 (b9 (.int .i64) .neq (strip x112) r107.1).bind fun x119 =>
 l4 x119 (
 some ((.bool false),r107.2)) (
 (cv S0 [(.agg [(strip (strip (v102 2))),(strip (strip (v102 3))),(strip (strip (v102 4)))])] r107.2).bind fun r123 =>
 (cv Y6 [(.agg [(strip (strip (v102 5))),(strip (strip (v102 6))),(strip (strip (v102 7))),(strip (strip (v102 8))),(strip (strip (v102 9))),(strip (strip (v102 10))),(strip (strip (v102 11)))])] r123.2).bind fun r127 =>
 (pcg D8 r127.2 [r123.1,(v102 0),r127.1]).bind fun r129 =>
 (J7 r129.1 0).bind fun x131 =>
 (J7 r129.1 1).bind fun x132 =>
 (B3 3 (strip x131)).bind fun c135 =>
 (id (
 (qco K6 r129.2 [(.agg [(strip (c135.getD 0 .g8)),(strip (c135.getD 1 .g8)),(strip (c135.getD 2 .g8))]),(.agg [(strip (v102 12)),(strip (v102 13)),(strip (v102 14))])]).bind fun x139 =>
 (E7 .not x139).bind fun x140 =>
 j8 x140 (
 some (0,[(.bool false)],r129.2)) (
 (b9 .bool .neq (strip x132) (v102 1)).bind fun x146 =>
 l4 x146 (
 some (0,[(.bool false)],r129.2)) (
 some (1,[(strip r107.1),(v102 15),(v102 16),(v102 17)],r129.2))):Option (Nat × List V × VH))).bind fun r149 =>
 C2 r149.1 [
 m6 1 r149.2.1 fun v150 =>
 some ((v150 0),r149.2.2),
 m6 4 r149.2.1 fun v151 =>
 (qco S3 r149.2.2 [(.agg [(strip (v151 1)),(strip (v151 2)),(strip (v151 3))]),(.int .i64 1)]).bind fun x155 =>
 (b9 (.int .i64) .lss x155 (.int .i64 0)).bind fun x158 =>
 l4 x158 (
 some ((.bool false),r149.2.2)) (
 (b9 (.int .i64) .neq (strip x155) (v151 0)).bind fun x162 =>
 l4 x162 (
 some ((.bool false),r149.2.2)) (
 some ((.bool true),r149.2.2)))]))])])):=(j4 vb _ _ _ rfl).trans (by kernel_rfl)
theorem amj (a0 a1:V) (H:VH):cv Y5 [a0,a1] H =
 (B3 3 a0).bind fun c1 =>
 (A0 (strip (c1.getD 0 .g8))).bind fun x6 =>
 (b9 (.int .i64) .sub a1 x6).bind fun x7 =>
 (b9 (.int .i64) .lss x7 (.int .i64 0)).bind fun x10 =>
 l4 x10 (
 some ((.int .i64 (-1)),H)) (
 (qc Q1 [(j7 H (strip (c1.getD 1 .g8))),(j7 H (strip x7))]).bind fun x15 =>
 (b9 (.int .i64) .lss x15 (.int .i64 0)).bind fun x18 =>
 l4 x18 (
 some ((.int .i64 (-1)),H)) (
 (qc Q1 [(j7 H (strip (c1.getD 2 .g8))),(j7 H (strip x15))]).bind fun x23 =>
 (b9 (.int .i64) .lss x23 (.int .i64 0)).bind fun x26 =>
 l4 x26 (
 some ((.int .i64 (-1)),H)) (
 some ((strip x23),H)))):=(j4 vb _ _ _ rfl).trans (by kernel_rfl)
noncomputable def X0:List V->VH->Option (Option Nat × List V × VH):=C8 (vb.ctx cv m9) (vb.b.H7 32) (vb.C9 32) ⟨⟨[0,1,5],[],[]⟩,[(.exit 0,⟨[1],[],[]⟩),(.ret,⟨[4],[],[]⟩)]⟩ (C7 Tryz.f32 5)
theorem acP (v0 v1 v2:V) (H:VH):X0 [v0,v1,v2] H =
 (B9 (strip v0)).bind fun x12 =>
 (b9 (.int .i64) .lss v2 x12).bind fun x13 =>
 l4 x13 (
 (C3 1 (strip v0) (strip v2)).bind fun x17 =>
 (O2 I7 false false 1 x17 H).bind fun r19 =>
 (A0 r19.1).bind fun x20 =>
 (b9 (.int .i64) .sub v1 x20).bind fun x21 =>
 (b9 (.int .i64) .lss x21 (.int .i64 0)).bind fun x24 =>
 l4 x24 (
 some (some 1,[(.int .i64 (-1))],r19.2)) (
 (b9 (.int .i64) .add (strip (strip v2)) (.int .i64 1)).bind fun x27 =>
 some (none,[v0,(strip x21),x27],r19.2))) (
 some (some 0,[v1],H)):=by kernel_rfl
theorem ajn (a0 a1:V) (H:VH):cv Q1 [a0,a1] H =
 (B9 (strip a0)).bind fun x3 =>
 (b9 (.int .i64) .sub a1 x3).bind fun x4 =>
 (b9 (.int .i64) .lss x4 (.int .i64 0)).bind fun x7 =>
 l4 x7 (
 some ((.int .i64 (-1)),H)) (
 (m9 X0 [a0,(strip x4),(.int .i64 0)] H).bind fun r29 =>
 C2 r29.1 [
 m6 1 r29.2.1 fun v30 =>
 some ((v30 0),r29.2.2),
 m6 1 r29.2.1 fun v33 =>
 some ((v33 0),r29.2.2)]):=(j4 vb _ _ _ rfl).trans (by kernel_rfl)
theorem amO (a0:V) (H:VH):cv S0 [a0] H =
 (B3 3 a0).bind fun c1 =>
 (A8 (strip (c1.getD 0 .g8))).bind fun y8 =>
 (cv X5 [(strip (strip (c1.getD 1 .g8)))] H).bind fun r12 =>
 (A8 r12.1).bind fun y15 =>
 (cv X5 [(strip (strip (c1.getD 2 .g8)))] r12.2).bind fun r19 =>
 (A8 r19.1).bind fun y22 =>
 some ((.agg [y8,y15,y22]),r19.2):=(j4 vb _ _ _ rfl).trans (by kernel_rfl)
noncomputable def aeq:List V->VH->Option (Option Nat × List V × VH):=C8 (vb.ctx cv m9) (vb.b.H7 39) (vb.C9 39) ⟨⟨[0,3,4],[],[]⟩,[(.exit 0,⟨[3],[],[]⟩)]⟩ (C7 Tryz.f39 3)
theorem ahj (v0 v1 v2:V) (H:VH):aeq [v0,v1,v2] H =
 (B9 (strip v0)).bind fun x8 =>
 (b9 (.int .i64) .lss v2 x8).bind fun x9 =>
 l4 x9 (
 (C3 1 (strip v0) (strip (strip v2))).bind fun x14 =>
 (O2 I7 false false 1 x14 H).bind fun r16 =>
 (C3 1 (strip v1) (strip v2)).bind fun x17 =>
 (A8 r16.1).bind fun y19 =>
 (stO x17 [y19] r16.2).bind fun H20 =>
 (b9 (.int .i64) .add (strip (strip (strip v2))) (.int .i64 1)).bind fun x22 =>
 some (none,[v0,v1,x22],H20)) (
 some (some 0,[v1],H)):=by kernel_rfl
theorem ajc (a0:V) (H:VH):cv X5 [a0] H =
 (B9 (strip a0)).bind fun x2 =>
 (agt 16 x2 x2).bind fun x3 =>
 (m9 aeq [a0,(.o9 H.length 0 x3.1 1),(.int .i64 0)] (H++[Z5 x3.2 [(.str [])]])).bind fun r24 =>
 C2 r24.1 [
 m6 1 r24.2.1 fun v25 =>
 some ((v25 0),r24.2.2)]:=(j4 vb _ _ _ rfl).trans (by kernel_rfl)
theorem amm (a0:V) (H:VH):cv Y6 [a0] H =
 (B3 7 a0).bind fun c1 =>
 (A8 (strip (c1.getD 0 .g8))).bind fun y8 =>
 (A8 (strip (c1.getD 1 .g8))).bind fun y13 =>
 (A8 (strip (c1.getD 2 .g8))).bind fun y18 =>
 (A8 (strip (c1.getD 3 .g8))).bind fun y23 =>
 (A8 (strip (c1.getD 4 .g8))).bind fun y28 =>
 (A8 (strip (c1.getD 5 .g8))).bind fun y33 =>
 (A8 (strip (c1.getD 6 .g8))).bind fun y38 =>
 some ((.agg [(strip y8),(strip y13),(strip y18),(strip y23),(strip y28),(strip y33),(strip y38)]),H):=(j4 vb _ _ _ rfl).trans (by kernel_rfl)
theorem ajo (a0 a1 a2:V) (H:VH):cv W4 [a0,a1,a2] H =
 (B3 3 a0).bind fun c1 =>
 (B3 7 a2).bind fun c3 =>
 (id (
 (qc abS [(j7 H (.agg [(strip (c1.getD 0 .g8)),(strip (c1.getD 1 .g8)),(strip (c1.getD 2 .g8))]))]).bind fun x7 =>
 (E7 .not x7).bind fun x8 =>
 j8 x8 (
 some (0,[(.bool false),(.str []),(.sl true []),(.sl true [])],H)) (
 (qc aai [(j7 H a1)]).bind fun x21 =>
 (E7 .not x21).bind fun x22 =>
 j8 x22 (
 some (0,[(.bool false),(.str []),(.sl true []),(.sl true [])],H)) (
 (qc Q6 [(j7 H (.agg [(strip (c3.getD 0 .g8)),(strip (c3.getD 1 .g8)),(strip (c3.getD 2 .g8)),(strip (c3.getD 3 .g8)),(strip (c3.getD 4 .g8)),(strip (c3.getD 5 .g8)),(strip (c3.getD 6 .g8))]))]).bind fun x34 =>
 (E7 .not x34).bind fun x35 =>
 j8 x35 (
 some (0,[(.bool false),(.str []),(.sl true []),(.sl true [])],H)) (
 (B9 (strip (c1.getD 2 .g8))).bind fun x46 =>
 (b9 (.int .i64) .eql x46 (.int .i64 30)).bind fun x47 =>
 j8 x47 (
 some (0,[(.bool false),(.str []),(.sl true []),(.sl true [])],H)) (
 (qc aaS [(j7 H (strip (c1.getD 2 .g8)))]).bind fun x56 =>
 (b9 (.int .i64) .geq x56 (.int .i64 5)).bind fun x57 =>
 l4 x57 (
 some (0,[(.bool false),(.str []),(.sl true []),(.sl true [])],H)) (
 some (1,[(strip a1),(c1.getD 0 .g8),(c1.getD 1 .g8),(c1.getD 2 .g8),(c3.getD 0 .g8),(c3.getD 1 .g8),(c3.getD 2 .g8),(c3.getD 3 .g8),(c3.getD 4 .g8),(c3.getD 5 .g8),(c3.getD 6 .g8),(.str []),(.sl true []),(.sl true [])],H)))))):Option (Nat × List V × VH))).bind fun r62 =>
 C2 r62.1 [
 m6 4 r62.2.1 fun v63 =>
 some ((.A5 [(.agg [(v63 1),(v63 2),(v63 3)]),(v63 0)]),r62.2.2),
 m6 14 r62.2.1 fun v64 =>
 (pc aaW [(j7 r62.2.2 (.agg [(strip (v64 1)),(strip (v64 2)),(strip (v64 3))]))]).bind fun x66 =>
 (B3 3 x66).bind fun c69 =>
 (b9 .str .add (.str [82,101,99,101,105,118,101,100,58,32,98,121,32]) (v64 0)).bind fun x71 =>
 (b9 .str .add x71 (.str [59,32])).bind fun x72 =>
 (qc aa7 [(j7 r62.2.2 (.agg [(strip (v64 4)),(strip (v64 5)),(strip (v64 6)),(strip (v64 7)),(strip (v64 8)),(strip (v64 9)),(strip (v64 10))]))]).bind fun x74 =>
 (b9 .str .add x72 x74).bind fun x75 =>
 (A8 x75).bind fun y77 =>
 (Q9 false 1 16 [[y77]] (v64 3)).bind fun x80 =>
 (A8 x80).bind fun y83 =>
 some ((.A5 [(.agg [(c69.getD 0 .g8),(c69.getD 1 .g8),y83]),(.bool true)]),r62.2.2)]:=(j4 vb _ _ _ rfl).trans (by kernel_rfl)
theorem aji (a0:V) (H:VH):cv abS [a0] H =
 (B3 3 a0).bind fun c1 =>
 (qc acp [(j7 H (.agg [(strip (c1.getD 0 .g8)),(strip (c1.getD 1 .g8)),(strip (c1.getD 2 .g8))]))]).bind fun x4 =>
 j8 x4 (
 (B9 (strip (c1.getD 1 .g8))).bind fun x8 =>
 (b9 (.int .i64) .gtr x8 (.int .i64 0)).bind fun x9 =>
 j8 x9 (
 (B9 (strip (c1.getD 2 .g8))).bind fun x14 =>
 (b9 (.int .i64) .leq x14 (.int .i64 30)).bind fun x15 =>
 some (x15,H)) (
 some ((.bool false),H))) (
 some ((.bool false),H)):=(j4 vb _ _ _ rfl).trans (by kernel_rfl)
noncomputable def aaw:List V->VH->Option (Option Nat × List V × VH):=C8 (vb.ctx cv m9) (vb.b.H7 94) (vb.C9 94) ⟨⟨[3],[(1,(1,0))],[(1,3)]⟩,[(.exit 0,⟨[],[(1,(1,0))],[(1,3)]⟩),(.ret,⟨[2],[],[]⟩)]⟩ (C7 Tryz.f94 4)
noncomputable def aak:List V->VH->Option (Option Nat × List V × VH):=C8 (vb.ctx cv m9) (vb.b.H7 94) (vb.C9 94) ⟨⟨[4],[(1,(1,0))],[(1,3)]⟩,[(.exit 2,⟨[],[],[]⟩),(.ret,⟨[2],[],[]⟩)]⟩ (C7 Tryz.f94 9)
theorem adm (v0 v1 v2 v3:V) (H:VH):aaw [v0,v1,v2,v3] H =
 (B9 (strip v2)).bind fun x54 =>
 (b9 (.int .i64) .lss v0 x54).bind fun x55 =>
 l4 x55 (
 (C3 1 (strip v2) (strip v0)).bind fun x59 =>
 (O2 I7 false false 1 x59 H).bind fun r61 =>
 (qc abn [(j7 r61.2 r61.1)]).bind fun x62 =>
 (E7 .not x62).bind fun x63 =>
 l4 x63 (
 some (some 1,[(.bool false)],r61.2)) (
 (b9 (.int .i64) .add (strip (strip v0)) (.int .i64 1)).bind fun x66 =>
 some (none,[x66,v1,v2,v3],r61.2))) (
 some (some 0,[v1,v2,v3],H)):=by kernel_rfl
theorem adl (v0 v1 v2 v3:V) (H:VH):aak [v0,v1,v2,v3] H =
 (B9 (strip v3)).bind fun x74 =>
 (b9 (.int .i64) .lss v0 x74).bind fun x75 =>
 l4 x75 (
 (C3 1 (strip v3) (strip v0)).bind fun x79 =>
 (O2 I7 false false 1 x79 H).bind fun r81 =>
 (qc Y2 [(j7 r81.2 r81.1)]).bind fun x82 =>
 (E7 .not x82).bind fun x83 =>
 l4 x83 (
 some (some 1,[(.bool false)],r81.2)) (
 (b9 (.int .i64) .add (strip (strip v0)) (.int .i64 1)).bind fun x86 =>
 some (none,[x86,v1,v2,v3],r81.2))) (
 some (some 0,[],H)):=by kernel_rfl
theorem akO (a0:V) (H:VH):cv acp [a0] H =
 (B3 3 a0).bind fun c1 =>
 (id (
 (b9 .str .neq (strip (c1.getD 0 .g8)) (.str [])).bind fun x5 =>
 j8 x5 (
 (qc abn [(j7 H (strip (c1.getD 0 .g8)))]).bind fun x9 =>
 (E7 .not x9).bind fun x10 =>
 j8 x10 (
 some (0,[(.bool false)],H)) (
 (B9 (strip (c1.getD 1 .g8))).bind fun x19 =>
 (b9 (.int .i64) .gtr x19 (.int .i64 10)).bind fun x20 =>
 j8 x20 (
 some (0,[(.bool false)],H)) (
 (B9 (strip (c1.getD 2 .g8))).bind fun x27 =>
 (b9 (.int .i64) .gtr x27 (.int .i64 31)).bind fun x28 =>
 l4 x28 (
 some (0,[(.bool false)],H)) (
 some (1,[(c1.getD 0 .g8),(c1.getD 1 .g8),(c1.getD 2 .g8)],H))))) (
 (B9 (strip (c1.getD 1 .g8))).bind fun x35 =>
 (b9 (.int .i64) .gtr x35 (.int .i64 10)).bind fun x36 =>
 j8 x36 (
 some (0,[(.bool false)],H)) (
 (B9 (strip (c1.getD 2 .g8))).bind fun x43 =>
 (b9 (.int .i64) .gtr x43 (.int .i64 31)).bind fun x44 =>
 l4 x44 (
 some (0,[(.bool false)],H)) (
 some (1,[(c1.getD 0 .g8),(c1.getD 1 .g8),(c1.getD 2 .g8)],H)))):Option (Nat × List V × VH))).bind fun r47 =>
 C2 r47.1 [
 m6 1 r47.2.1 fun v48 =>
 some ((v48 0),r47.2.2),
 m6 3 r47.2.1 fun v49 =>
 (m9 aaw [(.int .i64 0),(v49 0),(v49 1),(v49 2)] r47.2.2).bind fun r68 =>
 C2 r68.1 [
 m6 3 r68.2.1 fun v69 =>
 (m9 aak [(.int .i64 0),(v69 0),(v69 1),(v69 2)] r68.2.2).bind fun r88 =>
 C2 r88.1 [
 m6 0 r88.2.1 fun v89 =>
 some ((.bool true),r88.2.2),
 m6 1 r88.2.1 fun v91 =>
 some ((v91 0),r88.2.2)],
 m6 1 r68.2.1 fun v92 =>
 some ((v92 0),r68.2.2)]]:=(j4 vb _ _ _ rfl).trans (by kernel_rfl)
theorem amJ (a0:V) (H:VH):cv abn [a0] H =
 (pc aef [(j7 H a0)]).bind fun x2 =>
 (J7 x2 0).bind fun x4 =>
 (J7 x2 1).bind fun x5 =>
 (B3 3 (strip x4)).bind fun c8 =>
 j8 (strip x5) (
 (b9 .str .add (strip (c8.getD 1 .g8)) (.str [64])).bind fun x14 =>
 (b9 .str .add x14 (strip (c8.getD 2 .g8))).bind fun x17 =>
 (b9 .str .eql x17 (strip a0)).bind fun x19 =>
 some (x19,H)) (
 some ((.bool false),H)):=(j4 vb _ _ _ rfl).trans (by kernel_rfl)
theorem anA (a0:V) (H:VH):cv aef [a0] H =
 (qc aaF [(j7 H a0),(j7 H (.int .u8 64))]).bind fun x3 =>
 (J7 x3 0).bind fun x5 =>
 (J7 x3 1).bind fun x6 =>
 (J7 x3 2).bind fun x7 =>
 (qc M5 [(j7 H (strip x6))]).bind fun x13 =>
 (A8 (strip x5)).bind fun y15 =>
 (A8 x13).bind fun y16 =>
 j8 (strip x7) (
 (qc aay [(j7 H (.agg [(.str []),(strip y15),(strip y16)]))]).bind fun x23 =>
 some ((.A5 [(.agg [(.str []),(strip y15),(strip y16)]),x23]),H)) (
 some ((.A5 [(.agg [(.str []),(strip y15),(strip y16)]),(.bool false)]),H)):=(j4 vb _ _ _ rfl).trans (by kernel_rfl)
noncomputable def ahu:List V->VH->Option (Option Nat × List V × VH):=C8 (vb.ctx cv m9) (vb.b.H7 78) (vb.C9 78) ⟨⟨[0,1,7],[],[]⟩,[(.exit 0,⟨[0],[],[]⟩),(.ret,⟨[4,5,6],[],[]⟩)]⟩ (C7 Tryz.f78 2)
theorem ajP (v0 v1 v2:V) (H:VH):ahu [v0,v1,v2] H =
 (A0 v0).bind fun x6 =>
 (b9 (.int .i64) .lss v2 x6).bind fun x7 =>
 l4 x7 (
 (y5 (strip v0) (strip v2)).bind fun x10 =>
 (b9 (.int .u8) .eql x10 (.int .u8 34)).bind fun x11 =>
 l4 x11 (
 (qc abH [(j7 H (strip (strip v0))),(j7 H (strip (strip v2)))]).bind fun x14 =>
 (J7 x14 0).bind fun x16 =>
 (J7 x14 1).bind fun x17 =>
 (b9 (.int .i64) .lss (strip x17) (.int .i64 0)).bind fun x21 =>
 l4 x21 (
 some (some 1,[(strip (strip (strip v0))),(.str []),(.bool false)],H)) (
 some (none,[(strip (strip (strip v0))),v1,(strip (strip x17))],H))) (
 (y5 (strip (strip v0)) (strip (strip v2))).bind fun x30 =>
 (b9 (.int .u8) .eql x30 v1).bind fun x32 =>
 l4 x32 (
 (E1 (strip (strip (strip v0))) none (some (strip (strip (strip v2))))).bind fun x35 =>
 (b9 (.int .i64) .add (strip (strip (strip (strip v2)))) (.int .i64 1)).bind fun x38 =>
 (E1 (strip (strip (strip (strip v0)))) (some x38) none).bind fun x39 =>
 some (some 1,[x35,x39,(.bool true)],H)) (
 (b9 (.int .i64) .add (strip (strip (strip v2))) (.int .i64 1)).bind fun x44 =>
 some (none,[(strip (strip (strip v0))),(strip v1),x44],H)))) (
 some (some 0,[(strip v0)],H)):=by kernel_rfl
theorem anC (a0 a1:V) (H:VH):cv aaF [a0,a1] H =
 (m9 ahu [a0,a1,(.int .i64 0)] H).bind fun r46 =>
 C2 r46.1 [
 m6 1 r46.2.1 fun v47 =>
 some ((.A5 [(v47 0),(.str []),(.bool false)]),r46.2.2),
 m6 3 r46.2.1 fun v52 =>
 some ((.A5 [(v52 0),(v52 1),(v52 2)]),r46.2.2)]:=(j4 vb _ _ _ rfl).trans (by kernel_rfl)
noncomputable def agu:List V->VH->Option (Option Nat × List V × VH):=C8 (vb.ctx cv m9) (vb.b.H7 151) (vb.C9 151) ⟨⟨[0,6,7],[],[]⟩,[(.exit 0,⟨[],[],[]⟩),(.ret,⟨[4,5],[],[]⟩)]⟩ (C7 Tryz.f151 3)
theorem ajj (v0 v1 v2:V) (H:VH):agu [v0,v1,v2] H =
 (A0 v0).bind fun x8 =>
 (b9 (.int .i64) .lss v2 x8).bind fun x9 =>
 l4 x9 (
 (id (
 (y5 (strip v0) (strip v2)).bind fun x12 =>
 (b9 (.int .u8) .eql x12 (.int .u8 34)).bind fun x13 =>
 l4 x13 (
 (b9 (.int .i64) .add (strip (strip v2)) (.int .i64 1)).bind fun x16 =>
 some (0,[v1,x16],H)) (
 (id (
 (y5 (strip (strip v0)) (strip (strip v2))).bind fun x21 =>
 (b9 (.int .u8) .eql x21 (.int .u8 92)).bind fun x22 =>
 l4 x22 (
 (b9 (.int .i64) .add (strip (strip (strip v2))) (.int .i64 1)).bind fun x24 =>
 (A0 (strip (strip (strip v0)))).bind fun x28 =>
 (b9 (.int .i64) .eql x24 x28).bind fun x29 =>
 l4 x29 (
 some (0,[(.str []),(.int .i64 (-1))],H)) (
 some (1,[(strip (strip (strip (strip v0)))),v1,(strip x24)],H))) (
 some (1,[(strip (strip (strip v0))),v1,(strip (strip (strip v2)))],H)):Option (Nat × List V × VH))).bind fun r32 =>
 C2 r32.1 [
 m6 2 r32.2.1 fun v33 =>
 some (0,[(v33 0),(v33 1)],r32.2.2),
 m6 3 r32.2.1 fun v34 =>
 (b9 (.int .i64) .add (strip (v34 2)) (.int .i64 1)).bind fun x39 =>
 (E1 (v34 0) (some (v34 2)) (some x39)).bind fun x40 =>
 (b9 .str .add (v34 1) x40).bind fun x41 =>
 some (1,[(strip (v34 0)),x41,(strip (strip (v34 2)))],r32.2.2)]):Option (Nat × List V × VH))).bind fun r43 =>
 C2 r43.1 [
 m6 2 r43.2.1 fun v44 =>
 some (some 1,[(v44 0),(v44 1)],r43.2.2),
 m6 3 r43.2.1 fun v45 =>
 (b9 (.int .i64) .add (v45 2) (.int .i64 1)).bind fun x47 =>
 some (none,[(v45 0),(v45 1),x47],r43.2.2)]) (
 some (some 0,[],H)):=by kernel_rfl
theorem amE (a0 a1:V) (H:VH):cv abH [a0,a1] H =
 (b9 (.int .i64) .add a1 (.int .i64 1)).bind fun x4 =>
 (m9 agu [a0,(.str []),x4] H).bind fun r49 =>
 C2 r49.1 [
 m6 0 r49.2.1 fun v50 =>
 some ((.A5 [(.str []),(.int .i64 (-1))]),r49.2.2),
 m6 2 r49.2.1 fun v53 =>
 some ((.A5 [(v53 0),(v53 1)]),r49.2.2)]:=(j4 vb _ _ _ rfl).trans (by kernel_rfl)
noncomputable def aeu:List V->VH->Option (Option Nat × List V × VH):=C8 (vb.ctx cv m9) (vb.b.H7 90) (vb.C9 90) ⟨⟨[3,4],[],[]⟩,[(.exit 0,⟨[3],[],[]⟩)]⟩ (C7 Tryz.f90 3)
theorem ahe (v0 v1:V) (H:VH):aeu [v0,v1] H =
 (B9 (strip v0)).bind fun x7 =>
 (b9 (.int .i64) .lss v1 x7).bind fun x8 =>
 l4 x8 (
 (id (
 (C3 1 (strip v0) (strip v1)).bind fun x11 =>
 (O2 I7 false false 1 x11 H).bind fun r13 =>
 (b9 (.int .u8) .geq r13.1 (.int .u8 65)).bind fun x14 =>
 j8 x14 (
 (C3 1 (strip v0) (strip (strip v1))).bind fun x18 =>
 (O2 I7 false false 1 x18 r13.2).bind fun r20 =>
 (b9 (.int .u8) .leq r20.1 (.int .u8 90)).bind fun x21 =>
 l4 x21 (
 (C3 1 (strip v0) (strip (strip (strip (strip v1))))).bind fun x27 =>
 (O2 I7 false false 1 x27 r20.2).bind fun r29 =>
 (b9 (.int .u8) .add r29.1 (.int .u8 32)).bind fun x30 =>
 (C3 1 (strip v0) (strip (strip (strip v1)))).bind fun x31 =>
 (A8 x30).bind fun y33 =>
 (stO x31 [y33] r29.2).bind fun H34 =>
 some (0,[v0,(strip (strip (strip (strip (strip v1)))))],H34)) (
 some (0,[v0,(strip (strip (strip v1)))],r20.2))) (
 some (0,[v0,(strip (strip v1))],r13.2)):Option (Nat × List V × VH))).bind fun r36 =>
 C2 r36.1 [
 m6 2 r36.2.1 fun v37 =>
 (b9 (.int .i64) .add (v37 1) (.int .i64 1)).bind fun x39 =>
 some (none,[(v37 0),x39],r36.2.2)]) (
 some (some 0,[v0],H)):=by kernel_rfl
theorem aje (a0:V) (H:VH):cv M5 [a0] H =
 (apj a0).bind fun x2 =>
 (m9 aeu [(.o9 H.length 0 x2.length 1),(.int .i64 0)] (H++[x2])).bind fun r41 =>
 C2 r41.1 [
 m6 1 r41.2.1 fun v42 =>
 (adw (strip (v42 0)) r41.2.2).bind fun x44 =>
 some (x44,r41.2.2)]:=(j4 vb _ _ _ rfl).trans (by kernel_rfl)
theorem agQ (a0:V) (H:VH):cv aay [a0] H =
 (B3 3 a0).bind fun c1 =>
 (qc adv [(j7 H (strip (c1.getD 0 .g8)))]).bind fun x5 =>
 j8 x5 (
 (A0 (strip (c1.getD 1 .g8))).bind fun x9 =>
 (b9 (.int .i64) .leq x9 (.int .i64 30)).bind fun x10 =>
 j8 x10 (
 (qc acT [(j7 H (strip (c1.getD 1 .g8)))]).bind fun x15 =>
 j8 x15 (
 (A0 (strip (c1.getD 2 .g8))).bind fun x20 =>
 (b9 (.int .i64) .leq x20 (.int .i64 40)).bind fun x21 =>
 j8 x21 (
 (qc aai [(j7 H (strip (c1.getD 2 .g8)))]).bind fun x26 =>
 some (x26,H)) (
 some ((.bool false),H))) (
 some ((.bool false),H))) (
 some ((.bool false),H))) (
 some ((.bool false),H)):=(j4 vb _ _ _ rfl).trans (by kernel_rfl)
theorem amI (a0:V) (H:VH):cv adv [a0] H =
 (qc Y2 [(j7 H a0)]).bind fun x2 =>
 j8 x2 (
 (A0 (strip a0)).bind fun x5 =>
 (b9 (.int .i64) .leq x5 (.int .i64 40)).bind fun x6 =>
 some (x6,H)) (
 some ((.bool false),H)):=(j4 vb _ _ _ rfl).trans (by kernel_rfl)
noncomputable def W3:List V->VH->Option (Option Nat × List V × VH):=C8 (vb.ctx cv m9) (vb.b.H7 77) (vb.C9 77) ⟨⟨[0,3],[],[]⟩,[(.exit 0,⟨[0],[],[]⟩),(.ret,⟨[2],[],[]⟩)]⟩ (C7 Tryz.f77 2)
theorem acU (v0 v1:V) (H:VH):W3 [v0,v1] H =
 (id (
 (A0 v0).bind fun x4 =>
 (b9 (.int .i64) .lss v1 x4).bind fun x5 =>
 j8 x5 (
 (b9 (.int .i64) .leq (strip v1) (.int .i64 200)).bind fun x8 =>
 l4 x8 (
 some (0,[(strip v0),(strip (strip v1))],H)) (
 some (1,[(strip v0)],H))) (
 some (1,[(strip v0)],H)):Option (Nat × List V × VH))).bind fun r11 =>
 C2 r11.1 [
 m6 2 r11.2.1 fun v12 =>
 (id (
 (y5 (v12 0) (v12 1)).bind fun x15 =>
 (b9 (.int .u8) .lss x15 (.int .u8 32)).bind fun x16 =>
 j8 x16 (
 some (0,[(.bool false)],r11.2.2)) (
 (y5 (strip (v12 0)) (strip (v12 1))).bind fun x22 =>
 (b9 (.int .u8) .gtr x22 (.int .u8 126)).bind fun x23 =>
 l4 x23 (
 some (0,[(.bool false)],r11.2.2)) (
 some (1,[(strip (strip (v12 0))),(strip (strip (v12 1)))],r11.2.2))):Option (Nat × List V × VH))).bind fun r26 =>
 C2 r26.1 [
 m6 1 r26.2.1 fun v27 =>
 some (some 1,[(v27 0)],r26.2.2),
 m6 2 r26.2.1 fun v28 =>
 (b9 (.int .i64) .add (v28 1) (.int .i64 1)).bind fun x30 =>
 some (none,[(v28 0),x30],r26.2.2)],
 m6 1 r11.2.1 fun v32 =>
 some (some 0,[(v32 0)],r11.2.2)]:=by kernel_rfl
theorem ajq (a0:V) (H:VH):cv Y2 [a0] H =
 (m9 W3 [a0,(.int .i64 0)] H).bind fun r33 =>
 C2 r33.1 [
 m6 1 r33.2.1 fun v34 =>
 (A0 (v34 0)).bind fun x36 =>
 (b9 (.int .i64) .leq x36 (.int .i64 200)).bind fun x37 =>
 some (x37,r33.2.2),
 m6 1 r33.2.1 fun v39 =>
 some ((v39 0),r33.2.2)]:=(j4 vb _ _ _ rfl).trans (by kernel_rfl)
noncomputable def M4:List V->VH->Option (Option Nat × List V × VH):=C8 (vb.ctx cv m9) (vb.b.H7 139) (vb.C9 139) ⟨⟨[0,3,4],[],[]⟩,[(.exit 0,⟨[0],[],[]⟩),(.ret,⟨[2],[],[]⟩)]⟩ (C7 Tryz.f139 3)
theorem adV (v0 v1 v2:V) (H:VH):M4 [v0,v1,v2] H =
 (B9 (strip v1)).bind fun x7 =>
 (b9 (.int .i64) .lss v2 x7).bind fun x8 =>
 l4 x8 (
 (C3 1 (strip v1) (strip v2)).bind fun x11 =>
 (O2 I7 false false 1 x11 H).bind fun r13 =>
 (qc abQ [(j7 r13.2 r13.1)]).bind fun x14 =>
 (E7 .not x14).bind fun x15 =>
 l4 x15 (
 some (some 1,[(.bool false)],r13.2)) (
 (b9 (.int .i64) .add (strip (strip v2)) (.int .i64 1)).bind fun x18 =>
 some (none,[v0,v1,x18],r13.2))) (
 some (some 0,[v0],H)):=by kernel_rfl
theorem alI (a0:V) (H:VH):cv acT [a0] H =
 (pc M1 [(j7 H a0),(j7 H (.int .u8 46))]).bind fun x2 =>
 (m9 M4 [(strip a0),(strip x2),(.int .i64 0)] H).bind fun r20 =>
 C2 r20.1 [
 m6 1 r20.2.1 fun v21 =>
 (A0 (v21 0)).bind fun x23 =>
 (b9 (.int .i64) .leq x23 (.int .i64 30)).bind fun x24 =>
 some (x24,r20.2.2),
 m6 1 r20.2.1 fun v26 =>
 some ((v26 0),r20.2.2)]:=(j4 vb _ _ _ rfl).trans (by kernel_rfl)
noncomputable def afI:List V->VH->Option (Option Nat × List V × VH):=C8 (vb.ctx cv m9) (vb.b.H7 95) (vb.C9 95) ⟨⟨[0,1,5,6,7],[],[]⟩,[(.exit 0,⟨[0,5,6],[],[]⟩)]⟩ (C7 Tryz.f95 4)
theorem aip (v0 v1 v2 v3 v4:V) (H:VH):afI [v0,v1,v2,v3,v4] H =
 (A0 v0).bind fun x7 =>
 (b9 (.int .i64) .lss v4 x7).bind fun x8 =>
 l4 x8 (
 (id (
 (y5 (strip v0) (strip v4)).bind fun x11 =>
 (b9 (.int .u8) .eql x11 v1).bind fun x13 =>
 l4 x13 (
 (E1 (strip (strip v0)) (some v3) (some (strip (strip v4)))).bind fun x18 =>
 (A8 x18).bind fun y20 =>
 (aj1 v2).bind fun s22 =>
 (Q9 false 1 16 s22 (.sl true [[y20]])).bind fun x21 =>
 (b9 (.int .i64) .add (strip (strip (strip v4))) (.int .i64 1)).bind fun x25 =>
 some (0,[(strip (strip (strip v0))),(strip v1),x21,x25,(strip (strip (strip (strip v4))))],H)) (
 some (0,[(strip (strip v0)),(strip v1),v2,v3,(strip (strip v4))],H)):Option (Nat × List V × VH))).bind fun r27 =>
 C2 r27.1 [
 m6 5 r27.2.1 fun v28 =>
 (b9 (.int .i64) .add (v28 4) (.int .i64 1)).bind fun x30 =>
 some (none,[(v28 0),(v28 1),(v28 2),(v28 3),x30],r27.2.2)]) (
 some (some 0,[(strip v0),v2,v3],H)):=by kernel_rfl
theorem alJ (a0 a1:V) (H:VH):cv M1 [a0,a1] H =
 (m9 afI [a0,a1,(.sl true []),(.int .i64 0),(.int .i64 0)] H).bind fun r32 =>
 C2 r32.1 [
 m6 3 r32.2.1 fun v33 =>
 (E1 (v33 0) (some (v33 2)) none).bind fun x37 =>
 (A8 x37).bind fun y39 =>
 (aj1 (v33 1)).bind fun s41 =>
 (Q9 false 1 16 s41 (.sl true [[y39]])).bind fun x40 =>
 some (x40,r32.2.2)]:=(j4 vb _ _ _ rfl).trans (by kernel_rfl)
noncomputable def W6:List V->VH->Option (Option Nat × List V × VH):=C8 (vb.ctx cv m9) (vb.b.H7 202) (vb.C9 202) ⟨⟨[0,3],[],[]⟩,[(.exit 0,⟨[0],[],[]⟩),(.ret,⟨[2],[],[]⟩)]⟩ (C7 Tryz.f202 2)
theorem ac8 (v0 v1:V) (H:VH):W6 [v0,v1] H =
 (id (
 (A0 v0).bind fun x4 =>
 (b9 (.int .i64) .lss v1 x4).bind fun x5 =>
 j8 x5 (
 (b9 (.int .i64) .leq (strip v1) (.int .i64 40)).bind fun x8 =>
 l4 x8 (
 some (0,[(strip v0),(strip (strip v1))],H)) (
 some (1,[(strip v0)],H))) (
 some (1,[(strip v0)],H)):Option (Nat × List V × VH))).bind fun r11 =>
 C2 r11.1 [
 m6 2 r11.2.1 fun v12 =>
 (y5 (v12 0) (v12 1)).bind fun x15 =>
 (qc adr [(j7 r11.2.2 x15)]).bind fun x16 =>
 (E7 .not x16).bind fun x17 =>
 l4 x17 (
 some (some 1,[(.bool false)],r11.2.2)) (
 (b9 (.int .i64) .add (strip (v12 1)) (.int .i64 1)).bind fun x20 =>
 some (none,[(strip (v12 0)),x20],r11.2.2)),
 m6 1 r11.2.1 fun v22 =>
 some (some 0,[(v22 0)],r11.2.2)]:=by kernel_rfl
theorem ajh (a0:V) (H:VH):cv abQ [a0] H =
 (m9 W6 [a0,(.int .i64 0)] H).bind fun r23 =>
 C2 r23.1 [
 m6 1 r23.2.1 fun v24 =>
 (A0 (v24 0)).bind fun x26 =>
 (b9 (.int .i64) .geq x26 (.int .i64 1)).bind fun x27 =>
 j8 x27 (
 (A0 (strip (v24 0))).bind fun x30 =>
 (b9 (.int .i64) .leq x30 (.int .i64 40)).bind fun x31 =>
 some (x31,r23.2.2)) (
 some ((.bool false),r23.2.2)),
 m6 1 r23.2.1 fun v36 =>
 some ((v36 0),r23.2.2)]:=(j4 vb _ _ _ rfl).trans (by kernel_rfl)
noncomputable def abJ:List V->VH->Option (Option Nat × List V × VH):=C8 (vb.ctx cv m9) (vb.b.H7 152) (vb.C9 152) ⟨⟨[0,3],[],[]⟩,[(.exit 0,⟨[0],[],[]⟩),(.ret,⟨[2],[],[]⟩)]⟩ (C7 Tryz.f152 2)
theorem aen (v0 v1:V) (H:VH):abJ [v0,v1] H =
 (b9 (.int .i64) .lss v1 (.int .i64 19)).bind fun x3 =>
 l4 x3 (
 (y5 (.str [33,35,36,37,38,39,42,43,45,47,61,63,94,95,96,123,124,125,126]) (strip v1)).bind fun x6 =>
 (b9 (.int .u8) .eql v0 x6).bind fun x7 =>
 l4 x7 (
 some (some 1,[(.bool true)],H)) (
 (b9 (.int .i64) .add (strip (strip v1)) (.int .i64 1)).bind fun x10 =>
 some (none,[(strip v0),x10],H))) (
 some (some 0,[v0],H)):=by kernel_rfl
theorem amg (a0:V) (H:VH):cv adr [a0] H =
 (m9 abJ [a0,(.int .i64 0)] H).bind fun r12 =>
 C2 r12.1 [
 m6 1 r12.2.1 fun v13 =>
 (qc aap [(j7 r12.2.2 (v13 0))]).bind fun x15 =>
 some (x15,r12.2.2),
 m6 1 r12.2.1 fun v17 =>
 some ((v17 0),r12.2.2)]:=(j4 vb _ _ _ rfl).trans (by kernel_rfl)
theorem akk (a0:V) (H:VH):cv aap [a0] H =
 (b9 (.int .u8) .geq a0 (.int .u8 97)).bind fun x2 =>
 j8 x2 (
 (b9 (.int .u8) .leq (strip a0) (.int .u8 122)).bind fun x5 =>
 j8 x5 (
 some ((.bool true),H)) (
 (b9 (.int .u8) .geq (strip (strip a0)) (.int .u8 65)).bind fun x13 =>
 j8 x13 (
 (b9 (.int .u8) .leq (strip (strip (strip a0))) (.int .u8 90)).bind fun x16 =>
 j8 x16 (
 some ((.bool true),H)) (
 (b9 (.int .u8) .geq (strip (strip (strip (strip a0)))) (.int .u8 48)).bind fun x23 =>
 j8 x23 (
 (b9 (.int .u8) .leq (strip (strip (strip (strip (strip a0))))) (.int .u8 57)).bind fun x26 =>
 some (x26,H)) (
 some ((.bool false),H)))) (
 (b9 (.int .u8) .geq (strip (strip (strip a0))) (.int .u8 48)).bind fun x37 =>
 j8 x37 (
 (b9 (.int .u8) .leq (strip (strip (strip (strip a0)))) (.int .u8 57)).bind fun x40 =>
 some (x40,H)) (
 some ((.bool false),H))))) (
 (b9 (.int .u8) .geq (strip a0) (.int .u8 65)).bind fun x50 =>
 j8 x50 (
 (b9 (.int .u8) .leq (strip (strip a0)) (.int .u8 90)).bind fun x53 =>
 j8 x53 (
 some ((.bool true),H)) (
 (b9 (.int .u8) .geq (strip (strip (strip a0))) (.int .u8 48)).bind fun x60 =>
 j8 x60 (
 (b9 (.int .u8) .leq (strip (strip (strip (strip a0)))) (.int .u8 57)).bind fun x63 =>
 some (x63,H)) (
 some ((.bool false),H)))) (
 (b9 (.int .u8) .geq (strip (strip a0)) (.int .u8 48)).bind fun x74 =>
 j8 x74 (
 (b9 (.int .u8) .leq (strip (strip (strip a0))) (.int .u8 57)).bind fun x77 =>
 some (x77,H)) (
 some ((.bool false),H)))):=(j4 vb _ _ _ rfl).trans (by kernel_rfl)
noncomputable def aat:List V->VH->Option (Option Nat × List V × VH):=C8 (vb.ctx cv m9) (vb.b.H7 34) (vb.C9 34) ⟨⟨[0,3,4,5,6],[],[]⟩,[(.exit 2,⟨[0,3,4],[],[]⟩),(.ret,⟨[2],[],[]⟩)]⟩ (C7 Tryz.f34 9)
noncomputable def J9:List V->VH->Option (Option Nat × List V × VH):=C8 (vb.ctx cv m9) (vb.b.H7 34) (vb.C9 34) ⟨⟨[0,3,4],[],[]⟩,[(.exit 0,⟨[0],[],[]⟩),(.ret,⟨[2],[],[]⟩)]⟩ (C7 Tryz.f34 3)
theorem adk (v0 v1 v2 v3 v4:V) (H:VH):aat [v0,v1,v2,v3,v4] H =
 (A0 v3).bind fun x43 =>
 (b9 (.int .i64) .lss v4 x43).bind fun x44 =>
 l4 x44 (
 (id (
 (y5 (strip v3) (strip v4)).bind fun x47 =>
 (qc aap [(j7 H x47)]).bind fun x48 =>
 (E7 .not x48).bind fun x49 =>
 j8 x49 (
 (y5 (strip (strip v3)) (strip (strip v4))).bind fun x53 =>
 (b9 (.int .u8) .neq x53 (.int .u8 45)).bind fun x54 =>
 j8 x54 (
 some (0,[(.bool false)],H)) (
 (y5 (strip (strip (strip v3))) (strip (strip (strip v4)))).bind fun x61 =>
 (b9 (.int .u8) .geq x61 (.int .u8 65)).bind fun x62 =>
 j8 x62 (
 (y5 (strip (strip (strip (strip v3)))) (strip (strip (strip (strip v4))))).bind fun x66 =>
 (b9 (.int .u8) .leq x66 (.int .u8 90)).bind fun x67 =>
 l4 x67 (
 some (0,[(.bool false)],H)) (
 some (1,[v0,v1,v2,(strip (strip (strip (strip (strip v3))))),(strip (strip (strip (strip (strip v4)))))],H))) (
 some (1,[v0,v1,v2,(strip (strip (strip (strip v3)))),(strip (strip (strip (strip v4))))],H)))) (
 (y5 (strip (strip v3)) (strip (strip v4))).bind fun x77 =>
 (b9 (.int .u8) .geq x77 (.int .u8 65)).bind fun x78 =>
 j8 x78 (
 (y5 (strip (strip (strip v3))) (strip (strip (strip v4)))).bind fun x82 =>
 (b9 (.int .u8) .leq x82 (.int .u8 90)).bind fun x83 =>
 l4 x83 (
 some (0,[(.bool false)],H)) (
 some (1,[v0,v1,v2,(strip (strip (strip (strip v3)))),(strip (strip (strip (strip v4))))],H))) (
 some (1,[v0,v1,v2,(strip (strip (strip v3))),(strip (strip (strip v4)))],H))):Option (Nat × List V × VH))).bind fun r89 =>
 C2 r89.1 [
 m6 1 r89.2.1 fun v90 =>
 some (some 1,[(v90 0)],r89.2.2),
 m6 5 r89.2.1 fun v91 =>
 (b9 (.int .i64) .add (v91 4) (.int .i64 1)).bind fun x93 =>
 some (none,[(v91 0),(v91 1),(v91 2),(v91 3),x93],r89.2.2)]) (
 some (some 0,[v0,v1,v2],H)):=by kernel_rfl
theorem adg (v0 v1 v2:V) (H:VH):J9 [v0,v1,v2] H =
 (B9 (strip v1)).bind fun x7 =>
 (b9 (.int .i64) .lss v2 x7).bind fun x8 =>
 l4 x8 (
 (id (
 (C3 1 (strip v1) (strip v2)).bind fun x11 =>
 (O2 I7 false false 1 x11 H).bind fun r13 =>
 (id (
 (b9 .str .eql r13.1 (.str [])).bind fun x16 =>
 j8 x16 (
 some (0,[(.bool false)],r13.2)) (
 (y5 (strip r13.1) (.int .i64 0)).bind fun x23 =>
 (b9 (.int .u8) .eql x23 (.int .u8 45)).bind fun x24 =>
 j8 x24 (
 some (0,[(.bool false)],r13.2)) (
 (A0 (strip (strip (strip r13.1)))).bind fun x31 =>
 (b9 (.int .i64) .sub x31 (.int .i64 1)).bind fun x32 =>
 (y5 (strip (strip r13.1)) x32).bind fun x33 =>
 (b9 (.int .u8) .eql x33 (.int .u8 45)).bind fun x34 =>
 l4 x34 (
 some (0,[(.bool false)],r13.2)) (
 some (1,[v0,v1,(strip (strip v2)),(strip (strip (strip (strip r13.1))))],r13.2)))):Option (Nat × List V × VH))).bind fun r37 =>
 C2 r37.1 [
 m6 1 r37.2.1 fun v38 =>
 some (0,[(v38 0)],r37.2.2),
 m6 4 r37.2.1 fun v39 =>
 (m9 aat [(v39 0),(v39 1),(v39 2),(v39 3),(.int .i64 0)] r37.2.2).bind fun r95 =>
 C2 r95.1 [
 m6 3 r95.2.1 fun v96 =>
 some (1,[(v96 0),(v96 1),(v96 2)],r95.2.2),
 m6 1 r95.2.1 fun v97 =>
 some (0,[(v97 0)],r95.2.2)]]:Option (Nat × List V × VH))).bind fun r98 =>
 C2 r98.1 [
 m6 1 r98.2.1 fun v99 =>
 some (some 1,[(v99 0)],r98.2.2),
 m6 3 r98.2.1 fun v100 =>
 (b9 (.int .i64) .add (v100 2) (.int .i64 1)).bind fun x102 =>
 some (none,[(v100 0),(v100 1),x102],r98.2.2)]) (
 some (some 0,[v0],H)):=by kernel_rfl
theorem ajU (a0:V) (H:VH):cv aai [a0] H =
 (pc M1 [(j7 H a0),(j7 H (.int .u8 46))]).bind fun x2 =>
 (m9 J9 [(strip a0),(strip x2),(.int .i64 0)] H).bind fun r104 =>
 C2 r104.1 [
 m6 1 r104.2.1 fun v105 =>
 (A0 (v105 0)).bind fun x107 =>
 (b9 (.int .i64) .leq x107 (.int .i64 40)).bind fun x108 =>
 some (x108,r104.2.2),
 m6 1 r104.2.1 fun v110 =>
 some ((v110 0),r104.2.2)]:=(j4 vb _ _ _ rfl).trans (by kernel_rfl)
theorem ai5 (a0:V) (H:VH):cv Q6 [a0] H =
 (B3 7 a0).bind fun c1 =>
 (qc acu [(j7 H (.agg [(strip (c1.getD 0 .g8)),(strip (c1.getD 1 .g8)),(strip (c1.getD 2 .g8)),(strip (c1.getD 3 .g8)),(strip (c1.getD 4 .g8)),(strip (c1.getD 5 .g8)),(strip (c1.getD 6 .g8))]))]).bind fun x4 =>
 (E7 .not x4).bind fun x5 =>
 l4 x5 (
 some ((.bool false),H)) (
 (qc Q5 [(j7 H (.agg [(strip (c1.getD 0 .g8)),(strip (c1.getD 1 .g8)),(strip (c1.getD 2 .g8)),(strip (c1.getD 3 .g8)),(strip (c1.getD 4 .g8)),(strip (c1.getD 5 .g8)),(strip (c1.getD 6 .g8))]))]).bind fun x8 =>
 (b9 (.int .i64) .geq x8 (.int .i64 0)).bind fun x11 =>
 j8 x11 (
 (b9 (.int .i64) .lss (strip x8) (.int .i64 4102444800)).bind fun x14 =>
 some (x14,H)) (
 some ((.bool false),H))):=(j4 vb _ _ _ rfl).trans (by kernel_rfl)
theorem akf (a0:V) (H:VH):cv acu [a0] H =
 (B3 7 a0).bind fun c1 =>
 (b9 (.int .i64) .geq (strip (c1.getD 2 .g8)) (.int .i64 1)).bind fun x5 =>
 j8 x5 (
 (qc abm [(j7 H (strip (c1.getD 0 .g8))),(j7 H (strip (c1.getD 1 .g8)))]).bind fun x13 =>
 (b9 (.int .i64) .leq (strip (c1.getD 2 .g8)) x13).bind fun x14 =>
 j8 x14 (
 (b9 (.int .i64) .geq (strip (c1.getD 3 .g8)) (.int .i64 0)).bind fun x19 =>
 j8 x19 (
 (b9 (.int .i64) .leq (strip (c1.getD 3 .g8)) (.int .i64 23)).bind fun x24 =>
 j8 x24 (
 (b9 (.int .i64) .geq (strip (c1.getD 4 .g8)) (.int .i64 0)).bind fun x29 =>
 j8 x29 (
 (b9 (.int .i64) .leq (strip (c1.getD 4 .g8)) (.int .i64 59)).bind fun x34 =>
 j8 x34 (
 (b9 (.int .i64) .geq (strip (c1.getD 5 .g8)) (.int .i64 0)).bind fun x39 =>
 j8 x39 (
 (b9 (.int .i64) .leq (strip (c1.getD 5 .g8)) (.int .i64 59)).bind fun x44 =>
 j8 x44 (
 (qc adA [(j7 H (strip (c1.getD 6 .g8)))]).bind fun x49 =>
 some (x49,H)) (
 some ((.bool false),H))) (
 some ((.bool false),H))) (
 some ((.bool false),H))) (
 some ((.bool false),H))) (
 some ((.bool false),H))) (
 some ((.bool false),H))) (
 some ((.bool false),H))) (
 some ((.bool false),H)):=(j4 vb _ _ _ rfl).trans (by kernel_rfl)
theorem amy (a0 a1:V) (H:VH):cv abm [a0,a1] H =
 (id (
 (b9 (.int .i64) .lss a0 (.int .i64 1970)).bind fun x2 =>
 j8 x2 (
 some (0,[(.int .i64 0)],H)) (
 (b9 (.int .i64) .gtr (strip a0) (.int .i64 2099)).bind fun x11 =>
 j8 x11 (
 some (0,[(.int .i64 0)],H)) (
 (b9 (.int .i64) .lss a1 (.int .i64 1)).bind fun x19 =>
 j8 x19 (
 some (0,[(.int .i64 0)],H)) (
 (b9 (.int .i64) .gtr (strip a1) (.int .i64 12)).bind fun x25 =>
 l4 x25 (
 some (0,[(.int .i64 0)],H)) (
 some (1,[(strip (strip a0)),(strip (strip a1))],H))))):Option (Nat × List V × VH))).bind fun r28 =>
 C2 r28.1 [
 m6 1 r28.2.1 fun v29 =>
 some ((v29 0),r28.2.2),
 m6 2 r28.2.1 fun v30 =>
 (id (
 (b9 (.int .i64) .eql (v30 1) (.int .i64 2)).bind fun x34 =>
 j8 x34 (
 (qc abv [(j7 r28.2.2 (v30 0))]).bind fun x37 =>
 l4 x37 (
 some (0,[(.int .i64 29)],r28.2.2)) (
 some (1,[(strip (v30 1)),(.sl false (n7 [[(.int .i64 31)],[(.int .i64 28)],[(.int .i64 31)],[(.int .i64 30)],[(.int .i64 31)],[(.int .i64 30)],[(.int .i64 31)],[(.int .i64 31)],[(.int .i64 30)],[(.int .i64 31)],[(.int .i64 30)],[(.int .i64 31)]]))],r28.2.2))) (
 some (1,[(strip (v30 1)),(.sl false (n7 [[(.int .i64 31)],[(.int .i64 28)],[(.int .i64 31)],[(.int .i64 30)],[(.int .i64 31)],[(.int .i64 30)],[(.int .i64 31)],[(.int .i64 31)],[(.int .i64 30)],[(.int .i64 31)],[(.int .i64 30)],[(.int .i64 31)]]))],r28.2.2)):Option (Nat × List V × VH))).bind fun r41 =>
 C2 r41.1 [
 m6 1 r41.2.1 fun v42 =>
 some ((v42 0),r41.2.2),
 m6 2 r41.2.1 fun v43 =>
 (b9 (.int .i64) .sub (v43 0) (.int .i64 1)).bind fun x46 =>
 (C3 1 (strip (v43 1)) x46).bind fun x47 =>
 (O2 I7 false false 1 x47 r41.2.2).bind fun r49 =>
 some (r49.1,r49.2)]]:=(j4 vb _ _ _ rfl).trans (by kernel_rfl)
theorem amp (a0:V) (H:VH):cv abv [a0] H =
 (b9 (.int .i64) .rem a0 (.int .i64 4)).bind fun x2 =>
 (b9 (.int .i64) .eql x2 (.int .i64 0)).bind fun x3 =>
 j8 x3 (
 (b9 (.int .i64) .rem (strip a0) (.int .i64 100)).bind fun x6 =>
 (b9 (.int .i64) .neq x6 (.int .i64 0)).bind fun x7 =>
 j8 x7 (
 some ((.bool true),H)) (
 (b9 (.int .i64) .rem (strip (strip a0)) (.int .i64 400)).bind fun x13 =>
 (b9 (.int .i64) .eql x13 (.int .i64 0)).bind fun x14 =>
 some (x14,H))) (
 some ((.bool false),H)):=(j4 vb _ _ _ rfl).trans (by kernel_rfl)
theorem ami (a0:V) (H:VH):cv adA [a0] H =
 (b9 (.int .i64) .geq a0 (.int .i64 (-720))).bind fun x2 =>
 j8 x2 (
 (b9 (.int .i64) .leq (strip a0) (.int .i64 840)).bind fun x5 =>
 some (x5,H)) (
 some ((.bool false),H)):=(j4 vb _ _ _ rfl).trans (by kernel_rfl)
noncomputable def aes:List V->VH->Option (Option Nat × List V × VH):=C8 (vb.ctx cv m9) (vb.b.H7 98) (vb.C9 98) ⟨⟨[3,4],[(1,(1,0))],[(1,7)]⟩,[(.exit 0,⟨[3],[(1,(1,0))],[(1,7)]⟩)]⟩ (C7 Tryz.f98 3)
noncomputable def aep:List V->VH->Option (Option Nat × List V × VH):=C8 (vb.ctx cv m9) (vb.b.H7 98) (vb.C9 98) ⟨⟨[3,5],[(1,(1,0))],[(1,7)]⟩,[(.exit 2,⟨[3],[(1,(1,0))],[(1,7)]⟩)]⟩ (C7 Tryz.f98 9)
theorem agR (v0 v1 v2 v3 v4 v5 v6 v7 v8:V) (H:VH):aes [v0,v1,v2,v3,v4,v5,v6,v7,v8] H =
 (b9 (.int .i64) .lss v1 (strip v2)).bind fun x11 =>
 l4 x11 (
 (id (
 (b9 (.int .i64) .add v0 (.int .i64 365)).bind fun x13 =>
 (qc abv [(j7 H (strip v1))]).bind fun x16 =>
 l4 x16 (
 (b9 (.int .i64) .add x13 (.int .i64 1)).bind fun x18 =>
 some (0,[x18,(strip (strip v1)),v2,v3,v4,v5,v6,v7,v8],H)) (
 some (0,[x13,(strip (strip v1)),v2,v3,v4,v5,v6,v7,v8],H)):Option (Nat × List V × VH))).bind fun r20 =>
 C2 r20.1 [
 m6 9 r20.2.1 fun v21 =>
 (b9 (.int .i64) .add (v21 1) (.int .i64 1)).bind fun x23 =>
 some (none,[(v21 0),x23,(v21 2),(v21 3),(v21 4),(v21 5),(v21 6),(v21 7),(v21 8)],r20.2.2)]) (
 some (some 0,[v0,v2,v3,v4,v5,v6,v7,v8],H)):=by kernel_rfl
theorem agK (v0 v1 v2 v3 v4 v5 v6 v7 v8:V) (H:VH):aep [v0,v1,v2,v3,v4,v5,v6,v7,v8] H =
 (b9 (.int .i64) .lss v1 (strip v3)).bind fun x31 =>
 l4 x31 (
 (qc abm [(j7 H (strip v2)),(j7 H (strip v1))]).bind fun x36 =>
 (b9 (.int .i64) .add v0 x36).bind fun x37 =>
 (b9 (.int .i64) .add (strip (strip v1)) (.int .i64 1)).bind fun x40 =>
 some (none,[x37,x40,v2,v3,v4,v5,v6,v7,v8],H)) (
 some (some 0,[v0,v2,v3,v4,v5,v6,v7,v8],H)):=by kernel_rfl
theorem ajb (a0:V) (H:VH):cv Q5 [a0] H =
 (B3 7 a0).bind fun c1 =>
 (b9 (.int .i64) .sub (strip (c1.getD 2 .g8)) (.int .i64 1)).bind fun x5 =>
 (m9 aes [x5,(.int .i64 1970),(c1.getD 0 .g8),(c1.getD 1 .g8),(c1.getD 2 .g8),(c1.getD 3 .g8),(c1.getD 4 .g8),(c1.getD 5 .g8),(c1.getD 6 .g8)] H).bind fun r25 =>
 C2 r25.1 [
 m6 8 r25.2.1 fun v26 =>
 (m9 aep [(v26 0),(.int .i64 1),(v26 1),(v26 2),(v26 3),(v26 4),(v26 5),(v26 6),(v26 7)] r25.2.2).bind fun r42 =>
 C2 r42.1 [
 m6 8 r42.2.1 fun v43 =>
 (b9 (.int .i64) .mul (v43 0) (.int .i64 86400)).bind fun x45 =>
 (b9 (.int .i64) .mul (strip (v43 4)) (.int .i64 3600)).bind fun x48 =>
 (b9 (.int .i64) .add x45 x48).bind fun x49 =>
 (b9 (.int .i64) .mul (strip (v43 5)) (.int .i64 60)).bind fun x52 =>
 (b9 (.int .i64) .add x49 x52).bind fun x53 =>
 (b9 (.int .i64) .add x53 (strip (v43 6))).bind fun x56 =>
 (b9 (.int .i64) .mul (strip (v43 7)) (.int .i64 60)).bind fun x59 =>
 (b9 (.int .i64) .sub x56 x59).bind fun x60 =>
 some (x60,r42.2.2)]]:=(j4 vb _ _ _ rfl).trans (by kernel_rfl)
noncomputable def afz:List V->VH->Option (Option Nat × List V × VH):=C8 (vb.ctx cv m9) (vb.b.H7 36) (vb.C9 36) ⟨⟨[0,3,4],[],[]⟩,[(.exit 0,⟨[3],[],[]⟩)]⟩ (C7 Tryz.f36 3)
theorem ahO (v0 v1 v2:V) (H:VH):afz [v0,v1,v2] H =
 (id (
 (B9 (strip v0)).bind fun x5 =>
 (b9 (.int .i64) .lss v2 x5).bind fun x6 =>
 j8 x6 (
 (C3 1 (strip v0) (strip v2)).bind fun x10 =>
 (O2 I7 false false 1 x10 H).bind fun r12 =>
 (b9 .str .neq r12.1 (.str [])).bind fun x13 =>
 l4 x13 (
 some (0,[v0,v1,(strip (strip v2))],r12.2)) (
 some (1,[v1],r12.2))) (
 some (1,[v1],H)):Option (Nat × List V × VH))).bind fun r16 =>
 C2 r16.1 [
 m6 3 r16.2.1 fun v17 =>
 (id (
 (C3 1 (strip (v17 0)) (v17 2)).bind fun x20 =>
 (O2 I7 false false 1 x20 r16.2.2).bind fun r22 =>
 (qc adG [(j7 r22.2 r22.1)]).bind fun x23 =>
 l4 x23 (
 (b9 (.int .i64) .add (v17 1) (.int .i64 1)).bind fun x25 =>
 some (0,[(v17 0),x25,(strip (v17 2))],r22.2)) (
 some (0,[(v17 0),(v17 1),(strip (v17 2))],r22.2)):Option (Nat × List V × VH))).bind fun r27 =>
 C2 r27.1 [
 m6 3 r27.2.1 fun v28 =>
 (b9 (.int .i64) .add (v28 2) (.int .i64 1)).bind fun x30 =>
 some (none,[(v28 0),(v28 1),x30],r27.2.2)],
 m6 1 r16.2.1 fun v32 =>
 some (some 0,[(v32 0)],r16.2.2)]:=by kernel_rfl
theorem alk (a0:V) (H:VH):cv aaS [a0] H =
 (m9 afz [a0,(.int .i64 0),(.int .i64 0)] H).bind fun r33 =>
 C2 r33.1 [
 m6 1 r33.2.1 fun v34 =>
 some ((v34 0),r33.2.2)]:=(j4 vb _ _ _ rfl).trans (by kernel_rfl)
theorem al8 (a0:V) (H:VH):cv adG [a0] H =
 (A0 a0).bind fun x2 =>
 (b9 (.int .i64) .geq x2 (.int .i64 9)).bind fun x3 =>
 j8 x3 (
 (E1 (strip a0) none (some (.int .i64 9))).bind fun x6 =>
 (qc ace [(j7 H x6),(j7 H (.str [82,101,99,101,105,118,101,100,58]))]).bind fun x7 =>
 some (x7,H)) (
 some ((.bool false),H)):=(j4 vb _ _ _ rfl).trans (by kernel_rfl)
theorem aj4 (a0 a1:V) (H:VH):cv ace [a0,a1] H =
 (qc M5 [(j7 H a0)]).bind fun x2 =>
 (qc M5 [(j7 H a1)]).bind fun x4 =>
 (b9 .str .eql x2 x4).bind fun x5 =>
 some (x5,H):=(j4 vb _ _ _ rfl).trans (by kernel_rfl)
theorem alU (a0:V) (H:VH):cv aaW [a0] H =
 (B3 3 a0).bind fun c1 =>
 (Q9 false 1 16 [] (c1.getD 1 .g8)).bind fun x8 =>
 (Q9 false 1 16 [] (c1.getD 2 .g8)).bind fun x12 =>
 (A8 (strip (c1.getD 0 .g8))).bind fun y14 =>
 (A8 x8).bind fun y15 =>
 (A8 x12).bind fun y16 =>
 some ((.agg [y14,y15,y16]),H):=(j4 vb _ _ _ rfl).trans (by kernel_rfl)
theorem aiG (a0:V) (H:VH):cv aa7 [a0] H =
 (B3 7 a0).bind fun c1 =>
 (qc Q6 [(j7 H (.agg [(strip (c1.getD 0 .g8)),(strip (c1.getD 1 .g8)),(strip (c1.getD 2 .g8)),(strip (c1.getD 3 .g8)),(strip (c1.getD 4 .g8)),(strip (c1.getD 5 .g8)),(strip (c1.getD 6 .g8))]))]).bind fun x4 =>
 (E7 .not x4).bind fun x5 =>
 l4 x5 (
 some ((.str []),H)) (
 (id (
 (b9 (.int .i64) .lss (strip (c1.getD 6 .g8)) (.int .i64 0)).bind fun x12 =>
 l4 x12 (
 (E7 .neg (strip (strip (c1.getD 6 .g8)))).bind fun x15 =>
 some (0,[(.str [45]),x15,(c1.getD 0 .g8),(c1.getD 1 .g8),(c1.getD 2 .g8),(c1.getD 3 .g8),(c1.getD 4 .g8),(c1.getD 5 .g8),(c1.getD 6 .g8)],H)) (
 some (0,[(.str [43]),(strip (strip (c1.getD 6 .g8))),(c1.getD 0 .g8),(c1.getD 1 .g8),(c1.getD 2 .g8),(c1.getD 3 .g8),(c1.getD 4 .g8),(c1.getD 5 .g8),(c1.getD 6 .g8)],H)):Option (Nat × List V × VH))).bind fun r17 =>
 C2 r17.1 [
 m6 9 r17.2.1 fun v18 =>
 (qc abU [(j7 r17.2.2 (.agg [(strip (v18 2)),(strip (v18 3)),(strip (v18 4)),(strip (v18 5)),(strip (v18 6)),(strip (v18 7)),(strip (v18 8))]))]).bind fun x20 =>
 (b9 .str .add x20 (.str [44,32])).bind fun x21 =>
 (qc K7 [(j7 r17.2.2 (strip (v18 4)))]).bind fun x24 =>
 (b9 .str .add x21 x24).bind fun x25 =>
 (b9 .str .add x25 (.str [32])).bind fun x26 =>
 (pc acw []).bind fun x27 =>
 (b9 (.int .i64) .sub (strip (v18 3)) (.int .i64 1)).bind fun x30 =>
 (C3 1 x27 x30).bind fun x31 =>
 (O2 I7 false false 1 x31 r17.2.2).bind fun r33 =>
 (b9 .str .add x26 r33.1).bind fun x34 =>
 (b9 .str .add x34 (.str [32])).bind fun x35 =>
 (qc K7 [(j7 r33.2 (strip (v18 2)))]).bind fun x38 =>
 (b9 .str .add x35 x38).bind fun x39 =>
 (b9 .str .add x39 (.str [32])).bind fun x40 =>
 (qc P8 [(j7 r33.2 (strip (v18 5)))]).bind fun x43 =>
 (b9 .str .add x40 x43).bind fun x44 =>
 (b9 .str .add x44 (.str [58])).bind fun x45 =>
 (qc P8 [(j7 r33.2 (strip (v18 6)))]).bind fun x48 =>
 (b9 .str .add x45 x48).bind fun x49 =>
 (b9 .str .add x49 (.str [58])).bind fun x50 =>
 (qc P8 [(j7 r33.2 (strip (v18 7)))]).bind fun x53 =>
 (b9 .str .add x50 x53).bind fun x54 =>
 (b9 .str .add x54 (.str [32])).bind fun x55 =>
 (b9 .str .add x55 (v18 0)).bind fun x57 =>
 (b9 (.int .i64) .quo (v18 1) (.int .i64 60)).bind fun x59 =>
 (qc P8 [(j7 r33.2 x59)]).bind fun x60 =>
 (b9 .str .add x57 x60).bind fun x61 =>
 (b9 (.int .i64) .rem (strip (v18 1)) (.int .i64 60)).bind fun x63 =>
 (qc P8 [(j7 r33.2 x63)]).bind fun x64 =>
 (b9 .str .add x61 x64).bind fun x65 =>
 some (x65,r33.2)]):=(j4 vb _ _ _ rfl).trans (by kernel_rfl)
theorem ai9 (a0:V) (H:VH):cv abU [a0] H =
 (B3 7 a0).bind fun c1 =>
 (qc Q6 [(j7 H (.agg [(strip (c1.getD 0 .g8)),(strip (c1.getD 1 .g8)),(strip (c1.getD 2 .g8)),(strip (c1.getD 3 .g8)),(strip (c1.getD 4 .g8)),(strip (c1.getD 5 .g8)),(strip (c1.getD 6 .g8))]))]).bind fun x4 =>
 (E7 .not x4).bind fun x5 =>
 l4 x5 (
 some ((.str []),H)) (
 (qc Q5 [(j7 H (.agg [(strip (c1.getD 0 .g8)),(strip (c1.getD 1 .g8)),(strip (c1.getD 2 .g8)),(strip (c1.getD 3 .g8)),(strip (c1.getD 4 .g8)),(strip (c1.getD 5 .g8)),(strip (c1.getD 6 .g8))]))]).bind fun x11 =>
 (b9 (.int .i64) .mul (strip (c1.getD 6 .g8)) (.int .i64 60)).bind fun x14 =>
 (b9 (.int .i64) .add x11 x14).bind fun x15 =>
 (b9 (.int .i64) .quo x15 (.int .i64 86400)).bind fun x16 =>
 (b9 (.int .i64) .rem x16 (.int .i64 7)).bind fun x17 =>
 (C3 1 (strip (.sl false (n7 [[(.str [84,104,117])],[(.str [70,114,105])],[(.str [83,97,116])],[(.str [83,117,110])],[(.str [77,111,110])],[(.str [84,117,101])],[(.str [87,101,100])]]))) x17).bind fun x18 =>
 (O2 I7 false false 1 x18 H).bind fun r20 =>
 some (r20.1,r20.2)):=(j4 vb _ _ _ rfl).trans (by kernel_rfl)
noncomputable def af7:List V->VH->Option (Option Nat × List V × VH):=C8 (vb.ctx cv m9) (vb.b.H7 101) (vb.C9 101) ⟨⟨[0,3],[],[]⟩,[(.exit 0,⟨[0,3],[],[]⟩)]⟩ (C7 Tryz.f101 6)
theorem ai4 (v0 v1:V) (H:VH):af7 [v0,v1] H =
 (b9 (.int .i64) .gtr v0 (.int .i64 9)).bind fun x13 =>
 l4 x13 (
 (b9 (.int .i64) .rem (strip v0) (.int .i64 10)).bind fun x15 =>
 (b9 (.int .i64) .add (.int .i64 48) x15).bind fun x16 =>
 (acZ .u8 x16).bind fun x17 =>
 (A8 x17).bind fun y19 =>
 (adw (.sl true [[y19]]) H).bind fun x20 =>
 (b9 .str .add x20 v1).bind fun x22 =>
 (b9 (.int .i64) .quo (strip (strip v0)) (.int .i64 10)).bind fun x25 =>
 some (none,[x25,x22],H)) (
 some (some 0,[(strip v0),v1],H)):=by kernel_rfl
theorem amv (a0:V) (H:VH):cv K7 [a0] H =
 (b9 (.int .i64) .lss a0 (.int .i64 (-9223372036854775807))).bind fun x2 =>
 l4 x2 (
 some ((.str [45,57,50,50,51,51,55,50,48,51,54,56,53,52,55,55,53,56,48,56]),H)) (
 (b9 (.int .i64) .lss (strip a0) (.int .i64 0)).bind fun x5 =>
 l4 x5 (
 (E7 .neg (strip (strip a0))).bind fun x7 =>
 (qc K7 [(j7 H x7)]).bind fun x8 =>
 (b9 .str .add (.str [45]) x8).bind fun x9 =>
 some (x9,H)) (
 (m9 af7 [(strip (strip a0)),(.str [])] H).bind fun r27 =>
 C2 r27.1 [
 m6 2 r27.2.1 fun v28 =>
 (b9 (.int .i64) .add (.int .i64 48) (v28 0)).bind fun x30 =>
 (acZ .u8 x30).bind fun x31 =>
 (A8 x31).bind fun y33 =>
 (adw (.sl true [[y33]]) r27.2.2).bind fun x34 =>
 (b9 .str .add x34 (v28 1)).bind fun x36 =>
 some (x36,r27.2.2)])):=(j4 vb _ _ _ rfl).trans (by kernel_rfl)
theorem akN (H:VH):cv acw [] H =
 some ((.sl true [[(.str [74,97,110])],[(.str [70,101,98])],[(.str [77,97,114])],[(.str [65,112,114])],[(.str [77,97,121])],[(.str [74,117,110])],[(.str [74,117,108])],[(.str [65,117,103])],[(.str [83,101,112])],[(.str [79,99,116])],[(.str [78,111,118])],[(.str [68,101,99])]]),H):=(j4 vb _ _ _ rfl).trans (by kernel_rfl)
theorem anE (a0:V) (H:VH):cv P8 [a0] H =
 (b9 (.int .i64) .quo a0 (.int .i64 10)).bind fun x2 =>
 (qc K7 [(j7 H x2)]).bind fun x3 =>
 (b9 (.int .i64) .rem (strip a0) (.int .i64 10)).bind fun x5 =>
 (qc K7 [(j7 H x5)]).bind fun x6 =>
 (b9 .str .add x3 x6).bind fun x7 =>
 some (x7,H):=(j4 vb _ _ _ rfl).trans (by kernel_rfl)
theorem aja (a0 a1 a2:V) (H:VH):cv D8 [a0,a1,a2] H =
 (B3 3 a0).bind fun c1 =>
 (B3 7 a2).bind fun c3 =>
 (id (
 (qco abN H [(.agg [(strip (c1.getD 0 .g8)),(strip (c1.getD 1 .g8)),(strip (c1.getD 2 .g8))])]).bind fun x7 =>
 (E7 .not x7).bind fun x8 =>
 j8 x8 (
 some (0,[(.bool false),(.str []),(.sl true []),(.sl true [])],H)) (
 (qco Q4 H [(.agg [(strip (c3.getD 0 .g8)),(strip (c3.getD 1 .g8)),(strip (c3.getD 2 .g8)),(strip (c3.getD 3 .g8)),(strip (c3.getD 4 .g8)),(strip (c3.getD 5 .g8)),(strip (c3.getD 6 .g8))])]).bind fun x21 =>
 (E7 .not x21).bind fun x22 =>
 j8 x22 (
 some (0,[(.bool false),(.str []),(.sl true []),(.sl true [])],H)) (
 (qco aaj H [a1]).bind fun x34 =>
 (E7 .not x34).bind fun x35 =>
 j8 x35 (
 some (0,[(.bool false),(.str []),(.sl true []),(.sl true [])],H)) (
 (B9 (strip (c1.getD 2 .g8))).bind fun x46 =>
 (b9 (.int .i64) .eql x46 (.int .i64 30)).bind fun x47 =>
 j8 x47 (
 some (0,[(.bool false),(.str []),(.sl true []),(.sl true [])],H)) (
 (qco ac2 H [(.agg [(strip (c1.getD 0 .g8)),(strip (c1.getD 1 .g8)),(strip (c1.getD 2 .g8))])]).bind fun x55 =>
 (b9 (.int .i64) .geq x55 (.int .i64 5)).bind fun x56 =>
 l4 x56 (
 some (0,[(.bool false),(.str []),(.sl true []),(.sl true [])],H)) (
 some (1,[(strip a1),(c1.getD 0 .g8),(c1.getD 1 .g8),(c1.getD 2 .g8),(c3.getD 0 .g8),(c3.getD 1 .g8),(c3.getD 2 .g8),(c3.getD 3 .g8),(c3.getD 4 .g8),(c3.getD 5 .g8),(c3.getD 6 .g8),(.str []),(.sl true []),(.sl true [])],H)))))):Option (Nat × List V × VH))).bind fun r61 =>
 C2 r61.1 [
 m6 4 r61.2.1 fun v62 =>
 some ((.A5 [(.agg [(v62 1),(v62 2),(v62 3)]),(v62 0)]),r61.2.2),
 m6 14 r61.2.1 fun v63 =>
 (pco acf r61.2.2 [(.agg [(strip (v63 1)),(strip (v63 2)),(strip (v63 3))])]).bind fun x65 =>
 adS 1 x65 r61.2.2 fun o66 h67 =>
 (B3 3 o66).bind fun c70 =>
 (b9 .str .add (.str [82,101,99,101,105,118,101,100,58,32,98,121,32]) (v63 0)).bind fun x74 =>
 (b9 .str .add x74 (.str [59,32])).bind fun x75 =>
 (qco abe h67 [(.agg [(strip (v63 4)),(strip (v63 5)),(strip (v63 6)),(strip (v63 7)),(strip (v63 8)),(strip (v63 9)),(strip (v63 10))])]).bind fun x77 =>
 (b9 .str .add x75 x77).bind fun x78 =>
 (A8 x78).bind fun y80 =>
 (cv J6 [(c70.getD 2 .g8),(.int .i64 0),(.sl true [[y80]])] h67).bind fun r82 =>
 (A8 r82.1).bind fun y85 =>
 some ((.A5 [(.agg [(c70.getD 0 .g8),(c70.getD 1 .g8),y85]),(.bool true)]),r82.2)]:=(j4 vb _ _ _ rfl).trans (by kernel_rfl)
theorem ajp (a0:V) (H:VH):cv abN [a0] H =
 (B3 3 a0).bind fun c1 =>
 (qc aa4 [(j7 H (.agg [(strip (c1.getD 0 .g8)),(strip (c1.getD 1 .g8)),(strip (c1.getD 2 .g8))])),(j7 H (.int .i64 1)),(j7 H (.int .i64 30))]).bind fun x4 =>
 some (x4,H):=(j4 vb _ _ _ rfl).trans (by kernel_rfl)
theorem ail (a0 a1 a2:V) (H:VH):cv aa4 [a0,a1,a2] H =
 (B3 3 a0).bind fun c1 =>
 (qc ady [(j7 H (strip (c1.getD 0 .g8)))]).bind fun x5 =>
 j8 x5 (
 (B9 (strip (c1.getD 1 .g8))).bind fun x9 =>
 (b9 (.int .i64) .geq x9 a1).bind fun x11 =>
 j8 x11 (
 (B9 (strip (c1.getD 1 .g8))).bind fun x16 =>
 (b9 (.int .i64) .leq x16 (.int .i64 10)).bind fun x17 =>
 j8 x17 (
 (qc z8 [(j7 H (strip (c1.getD 1 .g8))),(j7 H (.fn Q7 []))]).bind fun x22 =>
 (E7 .not x22).bind fun x23 =>
 j8 x23 (
 (qc acy [(j7 H (strip (c1.getD 2 .g8))),(j7 H a2)]).bind fun x29 =>
 some (x29,H)) (
 some ((.bool false),H))) (
 some ((.bool false),H))) (
 some ((.bool false),H))) (
 some ((.bool false),H)):=(j4 vb _ _ _ rfl).trans (by kernel_rfl)
theorem amz (a0:V) (H:VH):cv ady [a0] H =
 (b9 .str .eql a0 (.str [])).bind fun x2 =>
 j8 x2 (
 some ((.bool true),H)) (
 (qc abt [(j7 H (strip a0))]).bind fun x7 =>
 some (x7,H)):=(j4 vb _ _ _ rfl).trans (by kernel_rfl)
theorem amh (a0:V) (H:VH):cv abt [a0] H =
 (qc adF [(j7 H a0),(j7 H (.str [64]))]).bind fun x2 =>
 (J7 x2 0).bind fun x4 =>
 (J7 x2 1).bind fun x5 =>
 (J7 x2 2).bind fun x6 =>
 j8 (strip x6) (
 (qc acF [(j7 H (strip x4))]).bind fun x13 =>
 j8 x13 (
 (qc aaj [(j7 H (strip x5))]).bind fun x17 =>
 some (x17,H)) (
 some ((.bool false),H))) (
 some ((.bool false),H)):=(j4 vb _ _ _ rfl).trans (by kernel_rfl)
theorem amQ (a0 a1:V) (H:VH):cv adF [a0,a1] H =
 (qc O9 [(j7 H a0),(j7 H a1)]).bind fun x5 =>
 (J7 x5 0).bind fun x6 =>
 (J7 x5 1).bind fun x7 =>
 (J7 x5 2).bind fun x8 =>
 some ((.A5 [(strip x6),(strip x7),(strip x8)]),H):=(j4 vb _ _ _ rfl).trans (by kernel_rfl)
theorem ad6 (a0 a1:V) (H:VH):cv O9 [a0,a1] H =
 (qc H8 [(j7 H a0),(j7 H a1)]).bind fun x5 =>
 (b9 (.int .i64) .geq x5 (.int .i64 0)).bind fun x8 =>
 l4 x8 (
 (E1 (strip a0) none (some (strip x5))).bind fun x11 =>
 (A0 (strip a1)).bind fun x15 =>
 (b9 (.int .i64) .add (strip (strip x5)) x15).bind fun x16 =>
 (E1 (strip (strip a0)) (some x16) none).bind fun x17 =>
 some ((.A5 [x11,x17,(.bool true)]),H)) (
 some ((.A5 [(strip a0),(.str []),(.bool false)]),H)):=(j4 vb _ _ _ rfl).trans (by kernel_rfl)
noncomputable def acR:List V->VH->Option (Option Nat × List V × VH):=C8 (vb.ctx cv m9) (vb.b.H7 209) (vb.C9 209) ⟨⟨[0,1,5,6,7,8,9,10],[],[]⟩,[(.exit 1,⟨[],[],[]⟩),(.ret,⟨[4],[],[]⟩)]⟩ (C7 Tryz.f209 15)
theorem adf (a0 a1:V) (H:VH):cv H8 [a0,a1] H =
 (A0 a1).bind fun x2 =>
 (id (
 (b9 (.int .i64) .eql x2 (.int .i64 0)).bind fun x5 =>
 j8 x5 (
 some (0,[(.int .i64 0)],H)) (
 (b9 .str .eql (strip a1) a0).bind fun x12 =>
 l4 x12 (
 some (0,[(.int .i64 0)],H)) (
 (b9 (.int .i64) .eql (strip x2) (.int .i64 1)).bind fun x17 =>
 l4 x17 (
 (y5 (strip (strip a1)) (.int .i64 0)).bind fun x21 =>
 (qc J4 [(j7 H (strip a0)),(j7 H x21)]).bind fun x22 =>
 some (0,[x22],H)) (
 (A0 (strip a0)).bind fun x26 =>
 (b9 (.int .i64) .geq (strip (strip x2)) x26).bind fun x27 =>
 l4 x27 (
 some (0,[(.int .i64 (-1))],H)) (
 (O2 I7 false false 1 (.gp 1 0) H).bind fun r32 =>
 (b9 (.int .i64) .leq (strip (strip (strip x2))) r32.1).bind fun x33 =>
 j8 x33 (
 (A0 (strip (strip a0))).bind fun x36 =>
 (b9 (.int .i64) .leq x36 (.int .i64 64)).bind fun x37 =>
 l4 x37 (
 (ajM 2 [(strip (strip (strip a0))),(strip (strip a1))] fun x42 =>
  some (0,[x42],r32.2))) (
 some (1,[(strip (strip (strip a0))),(strip (strip a1)),(strip (strip (strip (strip x2))))],r32.2))) (
 some (1,[(strip (strip a0)),(strip (strip a1)),(strip (strip (strip (strip x2))))],r32.2)))))):Option (Nat × List V × VH))).bind fun r46 =>
 C2 r46.1 [
 m6 1 r46.2.1 fun v47 =>
 some ((v47 0),r46.2.2),
 m6 3 r46.2.1 fun v48 =>
 (y5 (v48 1) (.int .i64 0)).bind fun x50 =>
 (y5 (strip (v48 1)) (.int .i64 1)).bind fun x53 =>
 (A0 (v48 0)).bind fun x57 =>
 (b9 (.int .i64) .sub x57 (v48 2)).bind fun x59 =>
 (b9 (.int .i64) .add x59 (.int .i64 1)).bind fun x60 =>
 (m9 acR [(strip (v48 0)),(strip (strip (v48 1))),(strip (v48 2)),x50,x53,(.int .i64 0),x60,(.int .i64 0)] r46.2.2).bind fun r208 =>
 C2 r208.1 [
 m6 0 r208.2.1 fun v209 =>
 some ((.int .i64 (-1)),r208.2.2),
 m6 1 r208.2.1 fun v211 =>
 some ((v211 0),r208.2.2)]]:=(j4 vb _ _ _ rfl).trans (by kernel_rfl)
theorem ab0 (a0 a1:V) (H:VH):cv J4 [a0,a1] H =
 (ajM 0 [a0,a1] fun x3 =>
  some (x3,H)):=(j4 vb _ _ _ rfl).trans (by kernel_rfl)
theorem ak8 (a0:V) (H:VH):cv acF [a0] H =
 (A0 a0).bind fun x2 =>
 (b9 (.int .i64) .leq x2 (.int .i64 30)).bind fun x3 =>
 j8 x3 (
 (pc S6 [(j7 H (strip a0)),(j7 H (.str [46]))]).bind fun x6 =>
 (qc z8 [(j7 H x6),(j7 H (.fn Y4 []))]).bind fun x7 =>
 (E7 .not x7).bind fun x8 =>
 some (x8,H)) (
 some ((.bool false),H)):=(j4 vb _ _ _ rfl).trans (by kernel_rfl)
theorem ajI (a0 a1:V) (H:VH):cv S6 [a0,a1] H =
 (pcg T4 H [a0,a1,(.int .i64 0),(.int .i64 (-1))]).bind fun r4 =>
 some (r4.1,r4.2):=(j4 vb _ _ _ rfl).trans (by kernel_rfl)
noncomputable def Q8:List V->VH->Option (Option Nat × List V × VH):=C8 (vb.ctx cv m9) (vb.b.H7 127) (vb.C9 127) ⟨⟨[0,1,2,3,9,10],[],[]⟩,[(.exit 0,⟨[0,9,10],[],[]⟩)]⟩ (C7 Tryz.f127 11)
theorem abL (v0 v1 v2 v3 v4 v5:V) (H:VH):Q8 [v0,v1,v2,v3,v4,v5] H =
 (b9 (.int .i64) .lss v5 v3).bind fun x34 =>
 l4 x34 (
 (qc acn [(j7 H v0),(j7 H v1)]).bind fun x37 =>
 (b9 (.int .i64) .lss x37 (.int .i64 0)).bind fun x40 =>
 l4 x40 (
 some (some 0,[(strip v0),v4,(strip v5)],H)) (
 (b9 (.int .i64) .add (strip x37) v2).bind fun x46 =>
 (E1 (strip v0) none (some x46)).bind fun x47 =>
 (C3 1 (strip v4) (strip v5)).bind fun x48 =>
 (A8 x47).bind fun y50 =>
 (stO x48 [y50] H).bind fun H51 =>
 (A0 (strip v1)).bind fun x55 =>
 (b9 (.int .i64) .add (strip (strip x37)) x55).bind fun x56 =>
 (E1 (strip (strip v0)) (some x56) none).bind fun x57 =>
 (b9 (.int .i64) .add (strip (strip v5)) (.int .i64 1)).bind fun x60 =>
 some (none,[x57,(strip (strip v1)),(strip v2),(strip v3),v4,x60],H51))) (
 some (some 0,[v0,v4,(strip v5)],H)):=by kernel_rfl
theorem ahC (a0 a1 a2 a3:V) (H:VH):cv T4 [a0,a1,a2,a3] H =
 (b9 (.int .i64) .eql a3 (.int .i64 0)).bind fun x2 =>
 l4 x2 (
 some ((.sl true []),H)) (
 (b9 .str .eql a1 (.str [])).bind fun x5 =>
 l4 x5 (
 (pc ahJ [(j7 H a0),(j7 H (strip a3))]).bind fun x8 =>
 some (x8,H)) (
 (id (
 (b9 (.int .i64) .lss (strip a3) (.int .i64 0)).bind fun x11 =>
 l4 x11 (
 (qc ack [(j7 H a0),(j7 H (strip a1))]).bind fun x14 =>
 (b9 (.int .i64) .add x14 (.int .i64 1)).bind fun x15 =>
 some (0,[(strip a0),(strip (strip a1)),a2,x15],H)) (
 some (0,[a0,(strip a1),a2,(strip (strip a3))],H)):Option (Nat × List V × VH))).bind fun r17 =>
 C2 r17.1 [
 m6 4 r17.2.1 fun v18 =>
 (A0 (v18 0)).bind fun x21 =>
 (b9 (.int .i64) .add x21 (.int .i64 1)).bind fun x22 =>
 (aiQ (v18 3) x22).bind fun x23 =>
 (agt 16 x23 x23).bind fun x26 =>
 (b9 (.int .i64) .sub (strip x23) (.int .i64 1)).bind fun x29 =>
 (m9 Q8 [(strip (v18 0)),(v18 1),(v18 2),x29,(.o9 r17.2.2.length 0 x26.1 1),(.int .i64 0)] (r17.2.2++[Z5 x26.2 [(.str [])]])).bind fun r62 =>
 C2 r62.1 [
 m6 3 r62.2.1 fun v63 =>
 (C3 1 (strip (v63 1)) (v63 2)).bind fun x67 =>
 (A8 (v63 0)).bind fun y69 =>
 (stO x67 [y69] r62.2.2).bind fun H70 =>
 (b9 (.int .i64) .add (strip (v63 2)) (.int .i64 1)).bind fun x73 =>
 (adu 1 (strip (v63 1)) none (some x73)).bind fun x74 =>
 some (x74,H70)]])):=(j4 vb _ _ _ rfl).trans (by kernel_rfl)
noncomputable def akP:List V->VH->Option (Option Nat × List V × VH):=C8 (vb.ctx cv m9) (vb.b.H7 182) (vb.C9 182) ⟨⟨[0,1,5],[],[]⟩,[(.ret,⟨[4],[],[]⟩)]⟩ (C7 Tryz.f182 6)
theorem ajQ (a0 a1:V) (H:VH):cv ack [a0,a1] H =
 (A0 a1).bind fun x2 =>
 (b9 (.int .i64) .eql x2 (.int .i64 0)).bind fun x3 =>
 l4 x3 (
 (qc abX [(j7 H a0)]).bind fun x5 =>
 (b9 (.int .i64) .add x5 (.int .i64 1)).bind fun x6 =>
 some (x6,H)) (
 (A0 (strip a1)).bind fun x9 =>
 (b9 (.int .i64) .eql x9 (.int .i64 1)).bind fun x10 =>
 l4 x10 (
 (y5 (strip (strip a1)) (.int .i64 0)).bind fun x13 =>
 (ajM 1 [a0,x13] fun x14 =>
  some (x14,H))) (
 (m9 akP [a0,(strip (strip a1)),(.int .i64 0)] H).bind fun r35 =>
 C2 r35.1 [
 m6 1 r35.2.1 fun v36 =>
 some ((v36 0),r35.2.2)])):=(j4 vb _ _ _ rfl).trans (by kernel_rfl)
theorem akG (a0 a1:V) (H:VH):cv acn [a0,a1] H =
 (qc H8 [(j7 H a0),(j7 H a1)]).bind fun x3 =>
 some (x3,H):=(j4 vb _ _ _ rfl).trans (by kernel_rfl)
theorem aaC (a0 a1:V) (H:VH):cv z8 [a0,a1] H =
 (qc I4 [(j7 H (strip a0)),(j7 H a1)]).bind fun x3 =>
 (b9 (.int .i64) .geq x3 (.int .i64 0)).bind fun x4 =>
 some (x4,H):=(j4 vb _ _ _ rfl).trans (by kernel_rfl)
noncomputable def E5:List V->VH->Option (Option Nat × List V × VH):=C8 (vb.ctx cv m9) (vb.b.H7 169) (vb.C9 169) ⟨⟨[0,1,7,8],[],[]⟩,[(.exit 0,⟨[],[],[]⟩),(.ret,⟨[4],[],[]⟩)]⟩ (C7 Tryz.f169 2)
theorem M9 (v0 v1 v2 v3:V) (H:VH):E5 [v0,v1,v2,v3] H =
 (b9 (.int .i64) .lss v3 v2).bind fun x4 =>
 l4 x4 (
 (C3 1 (strip v0) v3).bind fun x10 =>
 (O2 I7 false false 1 x10 H).bind fun r12 =>
 (ago v1).bind fun p14 =>
 (qc p14.1 ((([r12.1]:List V)++p14.2).map (j7 r12.2))).bind fun x13 =>
 l4 x13 (
 some (some 1,[(strip v3)],r12.2)) (
 (b9 (.int .i64) .add (strip v3) (.int .i64 1)).bind fun x17 =>
 some (none,[v0,(strip v1),v2,x17],r12.2))) (
 some (some 0,[],H)):=by kernel_rfl
theorem aa1 (a0 a1:V) (H:VH):cv I4 [a0,a1] H =
 (B9 (strip a0)).bind fun x2 =>
 (m9 E5 [a0,a1,x2,(.int .i64 0)] H).bind fun r19 =>
 C2 r19.1 [
 m6 0 r19.2.1 fun v20 =>
 some ((.int .i64 (-1)),r19.2.2),
 m6 1 r19.2.1 fun v22 =>
 some ((v22 0),r19.2.2)]:=(j4 vb _ _ _ rfl).trans (by kernel_rfl)
theorem ai7 (a0:V) (H:VH):cv Y4 [a0] H =
 (qc abP [(j7 H a0)]).bind fun x2 =>
 (E7 .not x2).bind fun x3 =>
 some (x3,H):=(j4 vb _ _ _ rfl).trans (by kernel_rfl)
theorem ai6 (a0:V) (H:VH):cv abP [a0] H =
 (A0 a0).bind fun x2 =>
 (b9 (.int .i64) .geq x2 (.int .i64 1)).bind fun x3 =>
 j8 x3 (
 (A0 (strip a0)).bind fun x6 =>
 (b9 (.int .i64) .leq x6 (.int .i64 40)).bind fun x7 =>
 j8 x7 (
 (qc aao [(j7 H (strip (strip a0))),(j7 H (.fn V0 []))]).bind fun x11 =>
 some (x11,H)) (
 some ((.bool false),H))) (
 some ((.bool false),H)):=(j4 vb _ _ _ rfl).trans (by kernel_rfl)
noncomputable def aau:List V->VH->Option (Option Nat × List V × VH):=C8 (vb.ctx cv m9) (vb.b.H7 170) (vb.C9 170) ⟨⟨[0,1,7,8],[],[]⟩,[(.exit 0,⟨[],[],[]⟩),(.ret,⟨[4],[],[]⟩)]⟩ (C7 Tryz.f170 2)
theorem ado (v0 v1 v2 v3:V) (H:VH):aau [v0,v1,v2,v3] H =
 (b9 (.int .i64) .lss v3 v2).bind fun x4 =>
 l4 x4 (
 (y5 v0 v3).bind fun x10 =>
 (ago v1).bind fun p12 =>
 (qc p12.1 ((([x10]:List V)++p12.2).map (j7 H))).bind fun x11 =>
 (E7 .not x11).bind fun x13 =>
 l4 x13 (
 some (some 1,[(.bool false)],H)) (
 (b9 (.int .i64) .add (strip v3) (.int .i64 1)).bind fun x15 =>
 some (none,[(strip v0),(strip v1),v2,x15],H))) (
 some (some 0,[],H)):=by kernel_rfl
theorem akv (a0 a1:V) (H:VH):cv aao [a0,a1] H =
 (A0 a0).bind fun x2 =>
 (m9 aau [(strip a0),a1,x2,(.int .i64 0)] H).bind fun r17 =>
 C2 r17.1 [
 m6 0 r17.2.1 fun v18 =>
 some ((.bool true),r17.2.2),
 m6 1 r17.2.1 fun v20 =>
 some ((v20 0),r17.2.2)]:=(j4 vb _ _ _ rfl).trans (by kernel_rfl)
theorem ahV (a0:V) (H:VH):cv V0 [a0] H =
 (qc acx [(j7 H a0)]).bind fun x2 =>
 j8 x2 (
 some ((.bool true),H)) (
 (qc V5 [(j7 H (strip a0))]).bind fun x27 =>
 j8 x27 (
 some ((.bool true),H)) (
 (b9 (.int .u8) .eql (strip (strip a0)) (.int .u8 33)).bind fun x51 =>
 j8 x51 (
 some ((.bool true),H)) (
 (b9 (.int .u8) .geq (strip (strip (strip a0))) (.int .u8 35)).bind fun x73 =>
 j8 x73 (
 (b9 (.int .u8) .leq (strip (strip (strip (strip a0)))) (.int .u8 39)).bind fun x76 =>
 j8 x76 (
 some ((.bool true),H)) (
 (b9 (.int .u8) .eql (strip (strip (strip (strip (strip a0))))) (.int .u8 42)).bind fun x97 =>
 j8 x97 (
 some ((.bool true),H)) (
 (b9 (.int .u8) .eql (strip (strip (strip (strip (strip (strip a0)))))) (.int .u8 43)).bind fun x115 =>
 j8 x115 (
 some ((.bool true),H)) (
 (b9 (.int .u8) .eql (strip (strip (strip (strip (strip (strip (strip a0))))))) (.int .u8 45)).bind fun x131 =>
 j8 x131 (
 some ((.bool true),H)) (
 (b9 (.int .u8) .eql (strip (strip (strip (strip (strip (strip (strip (strip a0)))))))) (.int .u8 47)).bind fun x145 =>
 j8 x145 (
 some ((.bool true),H)) (
 (b9 (.int .u8) .eql (strip (strip (strip (strip (strip (strip (strip (strip (strip a0))))))))) (.int .u8 61)).bind fun x157 =>
 j8 x157 (
 some ((.bool true),H)) (
 (b9 (.int .u8) .eql (strip (strip (strip (strip (strip (strip (strip (strip (strip (strip a0)))))))))) (.int .u8 63)).bind fun x167 =>
 j8 x167 (
 some ((.bool true),H)) (
 (b9 (.int .u8) .geq (strip (strip (strip (strip (strip (strip (strip (strip (strip (strip (strip a0))))))))))) (.int .u8 94)).bind fun x175 =>
 j8 x175 (
 (b9 (.int .u8) .leq (strip (strip (strip (strip (strip (strip (strip (strip (strip (strip (strip (strip a0)))))))))))) (.int .u8 96)).bind fun x178 =>
 j8 x178 (
 some ((.bool true),H)) (
 (b9 (.int .u8) .geq (strip (strip (strip (strip (strip (strip (strip (strip (strip (strip (strip (strip (strip a0))))))))))))) (.int .u8 123)).bind fun x185 =>
 j8 x185 (
 (b9 (.int .u8) .leq (strip (strip (strip (strip (strip (strip (strip (strip (strip (strip (strip (strip (strip (strip a0)))))))))))))) (.int .u8 126)).bind fun x188 =>
 some (x188,H)) (
 some ((.bool false),H)))) (
 (b9 (.int .u8) .geq (strip (strip (strip (strip (strip (strip (strip (strip (strip (strip (strip (strip a0)))))))))))) (.int .u8 123)).bind fun x199 =>
 j8 x199 (
 (b9 (.int .u8) .leq (strip (strip (strip (strip (strip (strip (strip (strip (strip (strip (strip (strip (strip a0))))))))))))) (.int .u8 126)).bind fun x202 =>
 some (x202,H)) (
 some ((.bool false),H))))))))))) (
 (b9 (.int .u8) .eql (strip (strip (strip (strip a0)))) (.int .u8 42)).bind fun x213 =>
 j8 x213 (
 some ((.bool true),H)) (
 (b9 (.int .u8) .eql (strip (strip (strip (strip (strip a0))))) (.int .u8 43)).bind fun x231 =>
 j8 x231 (
 some ((.bool true),H)) (
 (b9 (.int .u8) .eql (strip (strip (strip (strip (strip (strip a0)))))) (.int .u8 45)).bind fun x247 =>
 j8 x247 (
 some ((.bool true),H)) (
 (b9 (.int .u8) .eql (strip (strip (strip (strip (strip (strip (strip a0))))))) (.int .u8 47)).bind fun x261 =>
 j8 x261 (
 some ((.bool true),H)) (
 (b9 (.int .u8) .eql (strip (strip (strip (strip (strip (strip (strip (strip a0)))))))) (.int .u8 61)).bind fun x273 =>
 j8 x273 (
 some ((.bool true),H)) (
 (b9 (.int .u8) .eql (strip (strip (strip (strip (strip (strip (strip (strip (strip a0))))))))) (.int .u8 63)).bind fun x283 =>
 j8 x283 (
 some ((.bool true),H)) (
 (b9 (.int .u8) .geq (strip (strip (strip (strip (strip (strip (strip (strip (strip (strip a0)))))))))) (.int .u8 94)).bind fun x291 =>
 j8 x291 (
 (b9 (.int .u8) .leq (strip (strip (strip (strip (strip (strip (strip (strip (strip (strip (strip a0))))))))))) (.int .u8 96)).bind fun x294 =>
 j8 x294 (
 some ((.bool true),H)) (
 (b9 (.int .u8) .geq (strip (strip (strip (strip (strip (strip (strip (strip (strip (strip (strip (strip a0)))))))))))) (.int .u8 123)).bind fun x301 =>
 j8 x301 (
 (b9 (.int .u8) .leq (strip (strip (strip (strip (strip (strip (strip (strip (strip (strip (strip (strip (strip a0))))))))))))) (.int .u8 126)).bind fun x304 =>
 some (x304,H)) (
 some ((.bool false),H)))) (
 (b9 (.int .u8) .geq (strip (strip (strip (strip (strip (strip (strip (strip (strip (strip (strip a0))))))))))) (.int .u8 123)).bind fun x315 =>
 j8 x315 (
 (b9 (.int .u8) .leq (strip (strip (strip (strip (strip (strip (strip (strip (strip (strip (strip (strip a0)))))))))))) (.int .u8 126)).bind fun x318 =>
 some (x318,H)) (
 some ((.bool false),H))))))))))))):=(j4 vb _ _ _ rfl).trans (by kernel_rfl)
theorem ajN (a0:V) (H:VH):cv acx [a0] H =
 (b9 (.int .u8) .geq a0 (.int .u8 97)).bind fun x2 =>
 j8 x2 (
 (b9 (.int .u8) .leq (strip a0) (.int .u8 122)).bind fun x5 =>
 j8 x5 (
 some ((.bool true),H)) (
 (b9 (.int .u8) .geq (strip (strip a0)) (.int .u8 65)).bind fun x11 =>
 j8 x11 (
 (b9 (.int .u8) .leq (strip (strip (strip a0))) (.int .u8 90)).bind fun x14 =>
 some (x14,H)) (
 some ((.bool false),H)))) (
 (b9 (.int .u8) .geq (strip a0) (.int .u8 65)).bind fun x24 =>
 j8 x24 (
 (b9 (.int .u8) .leq (strip (strip a0)) (.int .u8 90)).bind fun x27 =>
 some (x27,H)) (
 some ((.bool false),H))):=(j4 vb _ _ _ rfl).trans (by kernel_rfl)
theorem akU (a0:V) (H:VH):cv V5 [a0] H =
 (b9 (.int .u8) .geq a0 (.int .u8 48)).bind fun x2 =>
 j8 x2 (
 (b9 (.int .u8) .leq (strip a0) (.int .u8 57)).bind fun x5 =>
 some (x5,H)) (
 some ((.bool false),H)):=(j4 vb _ _ _ rfl).trans (by kernel_rfl)
theorem akD (a0:V) (H:VH):cv aaj [a0] H =
 (A0 a0).bind fun x2 =>
 (b9 (.int .i64) .leq x2 (.int .i64 40)).bind fun x3 =>
 j8 x3 (
 (pc S6 [(j7 H (strip a0)),(j7 H (.str [46]))]).bind fun x6 =>
 (qc z8 [(j7 H x6),(j7 H (.fn U3 []))]).bind fun x7 =>
 (E7 .not x7).bind fun x8 =>
 some (x8,H)) (
 some ((.bool false),H)):=(j4 vb _ _ _ rfl).trans (by kernel_rfl)
theorem aix (a0:V) (H:VH):cv U3 [a0] H =
 (qc ac0 [(j7 H a0)]).bind fun x2 =>
 (E7 .not x2).bind fun x3 =>
 some (x3,H):=(j4 vb _ _ _ rfl).trans (by kernel_rfl)
theorem alP (a0:V) (H:VH):cv ac0 [a0] H =
 (b9 .str .neq a0 (.str [])).bind fun x2 =>
 j8 x2 (
 (y5 (strip a0) (.int .i64 0)).bind fun x5 =>
 (b9 (.int .u8) .neq x5 (.int .u8 45)).bind fun x6 =>
 j8 x6 (
 (A0 (strip (strip (strip a0)))).bind fun x11 =>
 (b9 (.int .i64) .sub x11 (.int .i64 1)).bind fun x12 =>
 (y5 (strip (strip a0)) x12).bind fun x13 =>
 (b9 (.int .u8) .neq x13 (.int .u8 45)).bind fun x14 =>
 j8 x14 (
 (qc aao [(j7 H (strip (strip (strip (strip a0))))),(j7 H (.fn W5 []))]).bind fun x18 =>
 some (x18,H)) (
 some ((.bool false),H))) (
 some ((.bool false),H))) (
 some ((.bool false),H)):=(j4 vb _ _ _ rfl).trans (by kernel_rfl)
theorem ajm (a0:V) (H:VH):cv W5 [a0] H =
 (b9 (.int .u8) .geq a0 (.int .u8 97)).bind fun x2 =>
 j8 x2 (
 (b9 (.int .u8) .leq (strip a0) (.int .u8 122)).bind fun x5 =>
 j8 x5 (
 some ((.bool true),H)) (
 (qc V5 [(j7 H (strip (strip a0)))]).bind fun x13 =>
 j8 x13 (
 some ((.bool true),H)) (
 (b9 (.int .u8) .eql (strip (strip (strip a0))) (.int .u8 45)).bind fun x19 =>
 some (x19,H)))) (
 (qc V5 [(j7 H (strip a0))]).bind fun x25 =>
 j8 x25 (
 some ((.bool true),H)) (
 (b9 (.int .u8) .eql (strip (strip a0)) (.int .u8 45)).bind fun x31 =>
 some (x31,H))):=(j4 vb _ _ _ rfl).trans (by kernel_rfl)
theorem aho (a0:V) (H:VH):cv Q7 [a0] H =
 (qc abt [(j7 H a0)]).bind fun x2 =>
 (E7 .not x2).bind fun x3 =>
 some (x3,H):=(j4 vb _ _ _ rfl).trans (by kernel_rfl)
theorem akB (a0 a1:V) (H:VH):cv acy [a0,a1] H =
 (B9 (strip a0)).bind fun x2 =>
 (b9 (.int .i64) .leq x2 a1).bind fun x4 =>
 j8 x4 (
 (qc z8 [(j7 H (strip a0)),(j7 H (.fn V6 []))]).bind fun x7 =>
 (E7 .not x7).bind fun x8 =>
 some (x8,H)) (
 some ((.bool false),H)):=(j4 vb _ _ _ rfl).trans (by kernel_rfl)
theorem ait (a0:V) (H:VH):cv V6 [a0] H =
 (qc abR [(j7 H a0)]).bind fun x2 =>
 (E7 .not x2).bind fun x3 =>
 some (x3,H):=(j4 vb _ _ _ rfl).trans (by kernel_rfl)
noncomputable def X9:List V->VH->Option (Option Nat × List V × VH):=C8 (vb.ctx cv m9) (vb.b.H7 71) (vb.C9 71) ⟨⟨[0,5,6],[],[]⟩,[(.exit 0,⟨[0],[],[]⟩),(.ret,⟨[2],[],[]⟩)]⟩ (C7 Tryz.f71 2)
theorem ac1 (v0 v1 v2:V) (H:VH):X9 [v0,v1,v2] H =
 (b9 (.int .i64) .lss v2 v1).bind fun x4 =>
 l4 x4 (
 (y5 v0 v2).bind fun x9 =>
 (b9 (.int .u8) .lss x9 (.int .u8 32)).bind fun x10 =>
 j8 x10 (
 some (some 1,[(.bool false)],H)) (
 (y5 (strip v0) (strip v2)).bind fun x16 =>
 (b9 (.int .u8) .gtr x16 (.int .u8 126)).bind fun x17 =>
 l4 x17 (
 some (some 1,[(.bool false)],H)) (
 (b9 (.int .i64) .add (strip v2) (.int .i64 1)).bind fun x20 =>
 some (none,[(strip (strip v0)),v1,x20],H)))) (
 some (some 0,[v0],H)):=by kernel_rfl
theorem ajr (a0:V) (H:VH):cv abR [a0] H =
 (A0 a0).bind fun x2 =>
 (m9 X9 [(strip a0),x2,(.int .i64 0)] H).bind fun r22 =>
 C2 r22.1 [
 m6 1 r22.2.1 fun v23 =>
 (A0 (v23 0)).bind fun x25 =>
 (b9 (.int .i64) .leq x25 (.int .i64 200)).bind fun x26 =>
 some (x26,r22.2.2),
 m6 1 r22.2.1 fun v28 =>
 some ((v28 0),r22.2.2)]:=(j4 vb _ _ _ rfl).trans (by kernel_rfl)
theorem ajd (a0:V) (H:VH):cv Q4 [a0] H =
 (B3 7 a0).bind fun c1 =>
 (qc abF [(j7 H (strip (c1.getD 0 .g8))),(j7 H (strip (c1.getD 1 .g8)))]).bind fun x9 =>
 (qc J2 [(j7 H (strip (c1.getD 2 .g8))),(j7 H (.int .i64 1)),(j7 H x9)]).bind fun x10 =>
 j8 x10 (
 (qc J2 [(j7 H (strip (c1.getD 3 .g8))),(j7 H (.int .i64 0)),(j7 H (.int .i64 23))]).bind fun x14 =>
 j8 x14 (
 (qc J2 [(j7 H (strip (c1.getD 4 .g8))),(j7 H (.int .i64 0)),(j7 H (.int .i64 59))]).bind fun x19 =>
 j8 x19 (
 (qc J2 [(j7 H (strip (c1.getD 5 .g8))),(j7 H (.int .i64 0)),(j7 H (.int .i64 59))]).bind fun x24 =>
 j8 x24 (
 (qc adx [(j7 H (strip (c1.getD 6 .g8)))]).bind fun x29 =>
 j8 x29 (
 (qc aax [(j7 H (.agg [(strip (c1.getD 0 .g8)),(strip (c1.getD 1 .g8)),(strip (c1.getD 2 .g8)),(strip (c1.getD 3 .g8)),(strip (c1.getD 4 .g8)),(strip (c1.getD 5 .g8)),(strip (c1.getD 6 .g8))]))]).bind fun x33 =>
 (qc J2 [(j7 H x33),(j7 H (.int .i64 0)),(j7 H (.int .i64 4102444799))]).bind fun x34 =>
 some (x34,H)) (
 some ((.bool false),H))) (
 some ((.bool false),H))) (
 some ((.bool false),H))) (
 some ((.bool false),H))) (
 some ((.bool false),H)):=(j4 vb _ _ _ rfl).trans (by kernel_rfl)
theorem amk (a0 a1:V) (H:VH):cv abF [a0,a1] H =
 (id (
 (b9 (.int .i64) .lss a0 (.int .i64 1970)).bind fun x2 =>
 j8 x2 (
 some (0,[(.int .i64 0)],H)) (
 (b9 (.int .i64) .gtr (strip a0) (.int .i64 2099)).bind fun x7 =>
 l4 x7 (
 some (0,[(.int .i64 0)],H)) (
 some (1,[(strip (strip a0)),a1],H))):Option (Nat × List V × VH))).bind fun r10 =>
 C2 r10.1 [
 m6 1 r10.2.1 fun v11 =>
 some ((v11 0),r10.2.2),
 m6 2 r10.2.1 fun v12 =>
 (id (
 (b9 (.int .i64) .eql (v12 1) (.int .i64 1)).bind fun x14 =>
 l4 x14 (
 some (0,[(v12 0),(v12 1),x14],r10.2.2)) (
 (b9 (.int .i64) .eql (v12 1) (.int .i64 3)).bind fun x16 =>
 l4 x16 (
 some (0,[(v12 0),(v12 1),x16],r10.2.2)) (
 (b9 (.int .i64) .eql (v12 1) (.int .i64 5)).bind fun x18 =>
 l4 x18 (
 some (0,[(v12 0),(v12 1),x18],r10.2.2)) (
 (b9 (.int .i64) .eql (v12 1) (.int .i64 7)).bind fun x20 =>
 l4 x20 (
 some (0,[(v12 0),(v12 1),x20],r10.2.2)) (
 (b9 (.int .i64) .eql (v12 1) (.int .i64 8)).bind fun x22 =>
 l4 x22 (
 some (0,[(v12 0),(v12 1),x22],r10.2.2)) (
 (b9 (.int .i64) .eql (v12 1) (.int .i64 10)).bind fun x24 =>
 l4 x24 (
 some (0,[(v12 0),(v12 1),x24],r10.2.2)) (
 (b9 (.int .i64) .eql (v12 1) (.int .i64 12)).bind fun x26 =>
 some (0,[(v12 0),(v12 1),x26],r10.2.2))))))):Option (Nat × List V × VH))).bind fun r28 =>
 C2 r28.1 [
 m6 3 r28.2.1 fun v29 =>
 l4 (v29 2) (
 some ((.int .i64 31),r28.2.2)) (
 (id (
 (b9 (.int .i64) .eql (v29 1) (.int .i64 4)).bind fun x31 =>
 l4 x31 (
 some (0,[(v29 0),(v29 1),x31],r28.2.2)) (
 (b9 (.int .i64) .eql (v29 1) (.int .i64 6)).bind fun x33 =>
 l4 x33 (
 some (0,[(v29 0),(v29 1),x33],r28.2.2)) (
 (b9 (.int .i64) .eql (v29 1) (.int .i64 9)).bind fun x35 =>
 l4 x35 (
 some (0,[(v29 0),(v29 1),x35],r28.2.2)) (
 (b9 (.int .i64) .eql (v29 1) (.int .i64 11)).bind fun x37 =>
 some (0,[(v29 0),(v29 1),x37],r28.2.2)))):Option (Nat × List V × VH))).bind fun r39 =>
 C2 r39.1 [
 m6 3 r39.2.1 fun v40 =>
 l4 (v40 2) (
 some ((.int .i64 30),r39.2.2)) (
 (b9 (.int .i64) .eql (v40 1) (.int .i64 2)).bind fun x42 =>
 l4 x42 (
 (b9 (.int .i64) .rem (v40 0) (.int .i64 4)).bind fun x45 =>
 (b9 (.int .i64) .eql x45 (.int .i64 0)).bind fun x46 =>
 j8 x46 (
 (b9 (.int .i64) .rem (strip (v40 0)) (.int .i64 100)).bind fun x49 =>
 (b9 (.int .i64) .neq x49 (.int .i64 0)).bind fun x50 =>
 j8 x50 (
 some ((.int .i64 29),r39.2.2)) (
 (b9 (.int .i64) .rem (strip (strip (v40 0))) (.int .i64 400)).bind fun x56 =>
 (b9 (.int .i64) .eql x56 (.int .i64 0)).bind fun x57 =>
 l4 x57 (
 some ((.int .i64 29),r39.2.2)) (
 some ((.int .i64 28),r39.2.2)))) (
 (b9 (.int .i64) .rem (strip (v40 0)) (.int .i64 400)).bind fun x64 =>
 (b9 (.int .i64) .eql x64 (.int .i64 0)).bind fun x65 =>
 l4 x65 (
 some ((.int .i64 29),r39.2.2)) (
 some ((.int .i64 28),r39.2.2)))) (
 some ((.int .i64 0),r39.2.2)))])]]:=(j4 vb _ _ _ rfl).trans (by kernel_rfl)
theorem alZ (a0 a1 a2:V) (H:VH):cv J2 [a0,a1,a2] H =
 (b9 (.int .i64) .geq a0 a1).bind fun x3 =>
 j8 x3 (
 (b9 (.int .i64) .leq (strip a0) a2).bind fun x7 =>
 some (x7,H)) (
 some ((.bool false),H)):=(j4 vb _ _ _ rfl).trans (by kernel_rfl)
theorem amo (a0:V) (H:VH):cv adx [a0] H =
 (qc J2 [(j7 H a0),(j7 H (.int .i64 (-720))),(j7 H (.int .i64 840))]).bind fun x2 =>
 some (x2,H):=(j4 vb _ _ _ rfl).trans (by kernel_rfl)
theorem ahf (a0:V) (H:VH):cv aax [a0] H =
 (B3 7 a0).bind fun c1 =>
 (qc O6 [(j7 H (strip (c1.getD 0 .g8))),(j7 H (strip (c1.getD 1 .g8))),(j7 H (strip (c1.getD 2 .g8)))]).bind fun x9 =>
 (b9 (.int .i64) .mul x9 (.int .i64 86400)).bind fun x10 =>
 (b9 (.int .i64) .mul (strip (c1.getD 3 .g8)) (.int .i64 3600)).bind fun x13 =>
 (b9 (.int .i64) .add x10 x13).bind fun x14 =>
 (b9 (.int .i64) .mul (strip (c1.getD 4 .g8)) (.int .i64 60)).bind fun x17 =>
 (b9 (.int .i64) .add x14 x17).bind fun x18 =>
 (b9 (.int .i64) .add x18 (strip (c1.getD 5 .g8))).bind fun x21 =>
 (b9 (.int .i64) .mul (strip (c1.getD 6 .g8)) (.int .i64 60)).bind fun x24 =>
 (b9 (.int .i64) .sub x21 x24).bind fun x25 =>
 some (x25,H):=(j4 vb _ _ _ rfl).trans (by kernel_rfl)
noncomputable def abf:List V->VH->Option (Option Nat × List V × VH):=C8 (vb.ctx cv m9) (vb.b.H7 168) (vb.C9 168) ⟨⟨[0,1,7,8,9],[],[]⟩,[(.exit 2,⟨[0,1,7,8],[],[]⟩)]⟩ (C7 Tryz.f168 6)
noncomputable def ad4:List V->VH->Option (Option Nat × List V × VH):=C8 (vb.ctx cv m9) (vb.b.H7 168) (vb.C9 168) ⟨⟨[0,1,7,8],[],[]⟩,[(.exit 0,⟨[7],[],[]⟩)]⟩ (C7 Tryz.f168 3)
theorem agm (v0 v1 v2 v3 v4:V) (H:VH):abf [v0,v1,v2,v3,v4] H =
 (id (
 (b9 (.int .i64) .leq v4 (.int .i64 12)).bind fun x10 =>
 j8 x10 (
 (b9 (.int .i64) .lss v3 v0).bind fun x14 =>
 j8 x14 (
 some (0,[(strip v0),v1,v2,(strip v3),(strip v4)],H)) (
 (b9 (.int .i64) .lss (strip v4) v1).bind fun x20 =>
 l4 x20 (
 some (0,[(strip v0),(strip v1),v2,(strip v3),(strip (strip v4))],H)) (
 some (1,[(strip v0),(strip v1),v2,(strip v3)],H)))) (
 some (1,[v0,v1,v2,v3],H)):Option (Nat × List V × VH))).bind fun r24 =>
 C2 r24.1 [
 m6 5 r24.2.1 fun v25 =>
 (qc abF [(j7 r24.2.2 (v25 3)),(j7 r24.2.2 (v25 4))]).bind fun x29 =>
 (b9 (.int .i64) .add (v25 2) x29).bind fun x30 =>
 (b9 (.int .i64) .add (strip (v25 4)) (.int .i64 1)).bind fun x33 =>
 some (none,[(v25 0),(v25 1),x30,(strip (v25 3)),x33],r24.2.2),
 m6 4 r24.2.1 fun v35 =>
 some (some 0,[(v35 0),(v35 1),(v35 2),(v35 3)],r24.2.2)]:=by kernel_rfl
theorem af5 (v0 v1 v2 v3:V) (H:VH):ad4 [v0,v1,v2,v3] H =
 (b9 (.int .i64) .leq v3 v0).bind fun x7 =>
 l4 x7 (
 (m9 abf [(strip v0),v1,v2,(strip v3),(.int .i64 1)] H).bind fun r36 =>
 C2 r36.1 [
 m6 4 r36.2.1 fun v37 =>
 (b9 (.int .i64) .add (v37 3) (.int .i64 1)).bind fun x39 =>
 some (none,[(v37 0),(v37 1),(v37 2),x39],r36.2.2)]) (
 some (some 0,[v2],H)):=by kernel_rfl
theorem ah6 (a0 a1 a2:V) (H:VH):cv O6 [a0,a1,a2] H =
 (b9 (.int .i64) .sub a2 (.int .i64 1)).bind fun x2 =>
 (m9 ad4 [a0,a1,x2,(.int .i64 1970)] H).bind fun r41 =>
 C2 r41.1 [
 m6 1 r41.2.1 fun v42 =>
 some ((v42 0),r41.2.2)]:=(j4 vb _ _ _ rfl).trans (by kernel_rfl)
noncomputable def ahQ:List V->VH->Option (Option Nat × List V × VH):=C8 (vb.ctx cv m9) (vb.b.H7 43) (vb.C9 43) ⟨⟨[3,7,8,9],[],[]⟩,[(.exit 0,⟨[3],[],[]⟩)]⟩ (C7 Tryz.f43 3)
theorem ak7 (v0 v1 v2 v3:V) (H:VH):ahQ [v0,v1,v2,v3] H =
 (b9 (.int .i64) .lss v3 v2).bind fun x8 =>
 l4 x8 (
 (C3 1 v1 v3).bind fun x9 =>
 (O2 I7 false false 1 x9 H).bind fun r11 =>
 (b9 .str .eql r11.1 (.str [])).bind fun x14 =>
 l4 x14 (
 some (some 0,[v0],r11.2)) (
 (qc Y3 [(j7 r11.2 (strip r11.1))]).bind fun x16 =>
 (qc R4 [(j7 r11.2 x16),(j7 r11.2 (.str [114,101,99,101,105,118,101,100,58]))]).bind fun x17 =>
 l4 x17 (
 (b9 (.int .i64) .add v0 (.int .i64 1)).bind fun x19 =>
 (b9 (.int .i64) .add v3 (.int .i64 1)).bind fun x21 =>
 some (none,[x19,v1,v2,x21],r11.2)) (
 (b9 (.int .i64) .add v3 (.int .i64 1)).bind fun x23 =>
 some (none,[v0,v1,v2,x23],r11.2)))) (
 some (some 0,[v0],H)):=by kernel_rfl
theorem ao4 (a0:V) (H:VH):cv ac2 [a0] H =
 (B3 3 a0).bind fun c1 =>
 (B9 (strip (c1.getD 2 .g8))).bind fun x6 =>
 (m9 ahQ [(.int .i64 0),(strip (c1.getD 2 .g8)),x6,(.int .i64 0)] H).bind fun r25 =>
 C2 r25.1 [
 m6 1 r25.2.1 fun v26 =>
 some ((v26 0),r25.2.2)]:=(j4 vb _ _ _ rfl).trans (by kernel_rfl)
noncomputable def aer:List V->VH->Option (Option Nat × List V × VH):=C8 (vb.ctx cv m9) (vb.b.H7 88) (vb.C9 88) ⟨⟨[3,8,9,10],[],[]⟩,[(.exit 0,⟨[3],[],[]⟩)]⟩ (C7 Tryz.f88 3)
theorem agS (v0 v1 v2 v3:V) (H:VH):aer [v0,v1,v2,v3] H =
 (b9 (.int .i64) .lss v3 v2).bind fun x7 =>
 l4 x7 (
 (C3 1 v1 (strip v3)).bind fun x9 =>
 (O2 I7 false false 1 x9 H).bind fun r11 =>
 (b9 (.int .u8) .geq r11.1 (.int .u8 65)).bind fun x15 =>
 j8 x15 (
 (b9 (.int .u8) .leq (strip r11.1) (.int .u8 90)).bind fun x18 =>
 l4 x18 (
 (C3 1 (strip v0) v3).bind fun x22 =>
 (O2 I7 false false 1 x22 r11.2).bind fun r24 =>
 (b9 (.int .u8) .add r24.1 (.int .u8 32)).bind fun x25 =>
 (C3 1 (strip v0) v3).bind fun x26 =>
 (A8 x25).bind fun y28 =>
 (stO x26 [y28] r24.2).bind fun H29 =>
 (b9 (.int .i64) .add (strip v3) (.int .i64 1)).bind fun x30 =>
 some (none,[v0,v1,v2,x30],H29)) (
 (b9 (.int .i64) .add (strip v3) (.int .i64 1)).bind fun x32 =>
 some (none,[v0,v1,v2,x32],r11.2))) (
 (b9 (.int .i64) .add (strip v3) (.int .i64 1)).bind fun x35 =>
 some (none,[v0,v1,v2,x35],r11.2))) (
 some (some 0,[v0],H)):=by kernel_rfl
theorem ajf (a0:V) (H:VH):cv Y3 [a0] H =
 (apj a0).bind fun x2 =>
 (B9 (.o9 H.length 0 x2.length 1)).bind fun x5 =>
 (m9 aer [(.o9 H.length 0 x2.length 1),(.o9 H.length 0 x2.length 1),x5,(.int .i64 0)] (H++[x2])).bind fun r37 =>
 C2 r37.1 [
 m6 1 r37.2.1 fun v38 =>
 (adw (strip (v38 0)) r37.2.2).bind fun x40 =>
 some (x40,r37.2.2)]:=(j4 vb _ _ _ rfl).trans (by kernel_rfl)
theorem agT (a0 a1:V) (H:VH):cv R4 [a0,a1] H =
 (qc J3 [(j7 H a0),(j7 H a1)]).bind fun x3 =>
 some (x3,H):=(j4 vb _ _ _ rfl).trans (by kernel_rfl)
theorem abZ (a0 a1:V) (H:VH):cv J3 [a0,a1] H =
 (A0 a0).bind fun x2 =>
 (A0 a1).bind fun x4 =>
 (b9 (.int .i64) .geq x2 x4).bind fun x5 =>
 j8 x5 (
 (A0 (strip a1)).bind fun x9 =>
 (E1 (strip a0) none (some x9)).bind fun x10 =>
 (b9 .str .eql x10 (strip (strip a1))).bind fun x12 =>
 some (x12,H)) (
 some ((.bool false),H)):=(j4 vb _ _ _ rfl).trans (by kernel_rfl)
theorem aki (a0:V) (H:VH):cv acf [a0] H =
 (B3 3 a0).bind fun c1 =>
 (pc F3 [(j7 H (strip (c1.getD 1 .g8)))]).bind fun x7 =>
 (pc F3 [(j7 H (strip (c1.getD 2 .g8)))]).bind fun x10 =>
 (A8 (strip (c1.getD 0 .g8))).bind fun y12 =>
 (A8 x7).bind fun y13 =>
 (A8 x10).bind fun y14 =>
 some ((.agg [y12,y13,y14]),H):=(j4 vb _ _ _ rfl).trans (by kernel_rfl)
theorem acj (a0:V) (H:VH):cv F3 [a0] H =
 (aeN .eql (strip a0)).bind fun x2 =>
 l4 x2 (
 some ((.sl true []),H)) (
 (Q9 false 1 16 [] a0).bind fun x6 =>
 some (x6,H)):=(j4 vb _ _ _ rfl).trans (by kernel_rfl)
theorem ah1 (a0:V) (H:VH):cv abe [a0] H =
 (B3 7 a0).bind fun c1 =>
 (qc Q4 [(j7 H (.agg [(strip (c1.getD 0 .g8)),(strip (c1.getD 1 .g8)),(strip (c1.getD 2 .g8)),(strip (c1.getD 3 .g8)),(strip (c1.getD 4 .g8)),(strip (c1.getD 5 .g8)),(strip (c1.getD 6 .g8))]))]).bind fun x4 =>
 (E7 .not x4).bind fun x5 =>
 l4 x5 (
 some ((.str []),H)) (
 (id (
 (b9 (.int .i64) .lss (strip (c1.getD 6 .g8)) (.int .i64 0)).bind fun x12 =>
 l4 x12 (
 (E7 .neg (strip (strip (c1.getD 6 .g8)))).bind fun x14 =>
 some (0,[(.str [32,45]),x14,(c1.getD 0 .g8),(c1.getD 1 .g8),(c1.getD 2 .g8),(c1.getD 3 .g8),(c1.getD 4 .g8),(c1.getD 5 .g8),(c1.getD 6 .g8)],H)) (
 some (0,[(.str [32,43]),(strip (strip (c1.getD 6 .g8))),(c1.getD 0 .g8),(c1.getD 1 .g8),(c1.getD 2 .g8),(c1.getD 3 .g8),(c1.getD 4 .g8),(c1.getD 5 .g8),(c1.getD 6 .g8)],H)):Option (Nat × List V × VH))).bind fun r17 =>
 C2 r17.1 [
 m6 9 r17.2.1 fun v18 =>
 (qc abT [(j7 r17.2.2 (.agg [(strip (v18 2)),(strip (v18 3)),(strip (v18 4)),(strip (v18 5)),(strip (v18 6)),(strip (v18 7)),(strip (v18 8))]))]).bind fun x20 =>
 (b9 .str .add x20 (.str [44,32])).bind fun x21 =>
 (qc A3 [(j7 r17.2.2 (strip (v18 4))),(j7 r17.2.2 (.int .i64 1))]).bind fun x24 =>
 (b9 .str .add x21 x24).bind fun x25 =>
 (b9 .str .add x25 (.str [32])).bind fun x26 =>
 (b9 (.int .i64) .sub (strip (v18 3)) (.int .i64 1)).bind fun x29 =>
 (agj 12 1 (.gp 0 0) x29).bind fun x30 =>
 (O2 I7 false false 1 x30 r17.2.2).bind fun r32 =>
 (b9 .str .add x26 r32.1).bind fun x33 =>
 (b9 .str .add x33 (.str [32])).bind fun x34 =>
 (qc A3 [(j7 r32.2 (strip (v18 2))),(j7 r32.2 (.int .i64 4))]).bind fun x37 =>
 (b9 .str .add x34 x37).bind fun x38 =>
 (b9 .str .add x38 (.str [32])).bind fun x39 =>
 (qc A3 [(j7 r32.2 (strip (v18 5))),(j7 r32.2 (.int .i64 2))]).bind fun x42 =>
 (b9 .str .add x39 x42).bind fun x43 =>
 (b9 .str .add x43 (.str [58])).bind fun x44 =>
 (qc A3 [(j7 r32.2 (strip (v18 6))),(j7 r32.2 (.int .i64 2))]).bind fun x47 =>
 (b9 .str .add x44 x47).bind fun x48 =>
 (b9 .str .add x48 (.str [58])).bind fun x49 =>
 (qc A3 [(j7 r32.2 (strip (v18 7))),(j7 r32.2 (.int .i64 2))]).bind fun x52 =>
 (b9 .str .add x49 x52).bind fun x53 =>
 (b9 .str .add x53 (v18 0)).bind fun x55 =>
 (b9 (.int .i64) .quo (v18 1) (.int .i64 60)).bind fun x57 =>
 (qc A3 [(j7 r32.2 x57),(j7 r32.2 (.int .i64 2))]).bind fun x58 =>
 (b9 .str .add x55 x58).bind fun x59 =>
 (b9 (.int .i64) .rem (strip (v18 1)) (.int .i64 60)).bind fun x61 =>
 (qc A3 [(j7 r32.2 x61),(j7 r32.2 (.int .i64 2))]).bind fun x62 =>
 (b9 .str .add x59 x62).bind fun x63 =>
 some (x63,r32.2)]):=(j4 vb _ _ _ rfl).trans (by kernel_rfl)
theorem ajg (a0:V) (H:VH):cv abT [a0] H =
 (B3 7 a0).bind fun c1 =>
 (qc Q4 [(j7 H (.agg [(strip (c1.getD 0 .g8)),(strip (c1.getD 1 .g8)),(strip (c1.getD 2 .g8)),(strip (c1.getD 3 .g8)),(strip (c1.getD 4 .g8)),(strip (c1.getD 5 .g8)),(strip (c1.getD 6 .g8))]))]).bind fun x4 =>
 (E7 .not x4).bind fun x5 =>
 l4 x5 (
 some ((.str []),H)) (
 (qc O6 [(j7 H (strip (c1.getD 0 .g8))),(j7 H (strip (c1.getD 1 .g8))),(j7 H (strip (c1.getD 2 .g8)))]).bind fun x14 =>
 (b9 (.int .i64) .rem x14 (.int .i64 7)).bind fun x15 =>
 (aeX 7 1 (.agg [(.str [84,104,117]),(.str [70,114,105]),(.str [83,97,116]),(.str [83,117,110]),(.str [77,111,110]),(.str [84,117,101]),(.str [87,101,100])]) x15).bind fun x16 =>
 some (x16,H)):=(j4 vb _ _ _ rfl).trans (by kernel_rfl)
noncomputable def afK:List V->VH->Option (Option Nat × List V × VH):=C8 (vb.ctx cv m9) (vb.b.H7 117) (vb.C9 117) ⟨⟨[0,1,5],[],[]⟩,[(.exit 0,⟨[5],[],[]⟩)]⟩ (C7 Tryz.f117 2)
theorem aio (v0 v1 v2:V) (H:VH):afK [v0,v1,v2] H =
 (id (
 (b9 (.int .i64) .gtr v0 (.int .i64 0)).bind fun x3 =>
 j8 x3 (
 some (0,[(strip v0),v1,v2],H)) (
 (b9 (.int .i64) .gtr v1 (.int .i64 0)).bind fun x7 =>
 l4 x7 (
 some (0,[(strip v0),(strip v1),v2],H)) (
 some (1,[v2],H))):Option (Nat × List V × VH))).bind fun r9 =>
 C2 r9.1 [
 m6 3 r9.2.1 fun v10 =>
 (b9 (.int .i64) .rem (v10 0) (.int .i64 10)).bind fun x12 =>
 (b9 (.int .i64) .rem (strip (v10 0)) (.int .i64 10)).bind fun x14 =>
 (b9 (.int .i64) .add x14 (.int .i64 1)).bind fun x15 =>
 (E1 (.str [48,49,50,51,52,53,54,55,56,57]) (some x12) (some x15)).bind fun x16 =>
 (b9 .str .add x16 (v10 2)).bind fun x18 =>
 (b9 (.int .i64) .quo (strip (strip (v10 0))) (.int .i64 10)).bind fun x21 =>
 (b9 (.int .i64) .sub (v10 1) (.int .i64 1)).bind fun x24 =>
 some (none,[x21,x24,x18],r9.2.2),
 m6 1 r9.2.1 fun v26 =>
 some (some 0,[(v26 0)],r9.2.2)]:=by kernel_rfl
theorem alD (a0 a1:V) (H:VH):cv A3 [a0,a1] H =
 (m9 afK [a0,a1,(.str [])] H).bind fun r27 =>
 C2 r27.1 [
 m6 1 r27.2.1 fun v28 =>
 some ((v28 0),r27.2.2)]:=(j4 vb _ _ _ rfl).trans (by kernel_rfl)
theorem amG (a0 a1:V) (H:VH):cv K6 [a0,a1] H =
 (B3 3 a0).bind fun c1 =>
 (B3 3 a1).bind fun c3 =>
 (b9 .str .neq (strip (c1.getD 0 .g8)) (strip (c3.getD 0 .g8))).bind fun x9 =>
 l4 x9 (
 some ((.bool false),H)) (
 (qc X6 [(j7 H (strip (c1.getD 1 .g8))),(j7 H (strip (c3.getD 1 .g8)))]).bind fun x15 =>
 (E7 .not x15).bind fun x16 =>
 l4 x16 (
 some ((.bool false),H)) (
 (qc X6 [(j7 H (strip (c1.getD 2 .g8))),(j7 H (strip (c3.getD 2 .g8)))]).bind fun x22 =>
 (E7 .not x22).bind fun x23 =>
 l4 x23 (
 some ((.bool false),H)) (
 some ((.bool true),H)))):=(j4 vb _ _ _ rfl).trans (by kernel_rfl)
noncomputable def Y1:List V->VH->Option (Option Nat × List V × VH):=C8 (vb.ctx cv m9) (vb.b.H7 47) (vb.C9 47) ⟨⟨[0,1,5],[],[]⟩,[(.exit 0,⟨[],[],[]⟩),(.ret,⟨[4],[],[]⟩)]⟩ (C7 Tryz.f47 4)
theorem acV (v0 v1 v2:V) (H:VH):Y1 [v0,v1,v2] H =
 (B9 (strip v0)).bind fun x10 =>
 (b9 (.int .i64) .lss v2 x10).bind fun x11 =>
 l4 x11 (
 (C3 1 (strip v0) (strip v2)).bind fun x14 =>
 (O2 I7 false false 1 x14 H).bind fun r16 =>
 (C3 1 (strip v1) (strip (strip v2))).bind fun x19 =>
 (O2 I7 false false 1 x19 r16.2).bind fun r21 =>
 (b9 .str .neq r16.1 r21.1).bind fun x22 =>
 l4 x22 (
 some (some 1,[(.bool false)],r21.2)) (
 (b9 (.int .i64) .add (strip (strip (strip v2))) (.int .i64 1)).bind fun x25 =>
 some (none,[v0,v1,x25],r21.2))) (
 some (some 0,[],H)):=by kernel_rfl
theorem ajl (a0 a1:V) (H:VH):cv X6 [a0,a1] H =
 (B9 (strip a0)).bind fun x2 =>
 (B9 (strip a1)).bind fun x4 =>
 (b9 (.int .i64) .neq x2 x4).bind fun x5 =>
 l4 x5 (
 some ((.bool false),H)) (
 (m9 Y1 [a0,a1,(.int .i64 0)] H).bind fun r27 =>
 C2 r27.1 [
 m6 0 r27.2.1 fun v28 =>
 some ((.bool true),r27.2.2),
 m6 1 r27.2.1 fun v30 =>
 some ((v30 0),r27.2.2)]):=(j4 vb _ _ _ rfl).trans (by kernel_rfl)
theorem akl (a0 a1:V) (H:VH):cv aaq [a0,a1] H =
 (B3 3 a0).bind fun c1 =>
 (cv T7 [(strip (strip (c1.getD 1 .g8))),(strip a1)] H).bind fun r7 =>
 (cv T7 [(strip (strip (c1.getD 2 .g8))),(strip r7.1)] r7.2).bind fun r13 =>
 some (r13.1,r13.2):=(j4 vb _ _ _ rfl).trans (by kernel_rfl)
noncomputable def adj:List V->VH->Option (Option Nat × List V × VH):=C8 (vb.ctx cv m9) (vb.b.H7 48) (vb.C9 48) ⟨⟨[0,1,5],[],[]⟩,[(.exit 0,⟨[1],[],[]⟩)]⟩ (C7 Tryz.f48 2)
theorem af4 (v0 v1 v2:V) (H:VH):adj [v0,v1,v2] H =
 (B9 (strip v0)).bind fun x4 =>
 (b9 (.int .i64) .lss v2 x4).bind fun x5 =>
 l4 x5 (
 (qc K0 [(j7 H v1)]).bind fun x9 =>
 (C3 1 (strip v0) (strip v2)).bind fun x10 =>
 (A8 x9).bind fun y12 =>
 (stO x10 [y12] H).bind fun H13 =>
 (b9 (.int .i64) .add (strip v1) (.int .i64 1)).bind fun x15 =>
 (b9 (.int .i64) .add (strip (strip v2)) (.int .i64 1)).bind fun x18 =>
 some (none,[v0,x15,x18],H13)) (
 some (some 0,[v1],H)):=by kernel_rfl
theorem ahB (a0 a1:V) (H:VH):cv T7 [a0,a1] H =
 (m9 adj [a0,a1,(.int .i64 0)] H).bind fun r20 =>
 C2 r20.1 [
 m6 1 r20.2.1 fun v21 =>
 some ((v21 0),r20.2.2)]:=(j4 vb _ _ _ rfl).trans (by kernel_rfl)
noncomputable def ae7:List V->VH->Option (Option Nat × List V × VH):=C8 (vb.ctx cv m9) (vb.b.H7 118) (vb.C9 118) ⟨⟨[0,3],[],[]⟩,[(.exit 0,⟨[3],[],[]⟩)]⟩ (C7 Tryz.f118 4)
theorem ahz (v0 v1:V) (H:VH):ae7 [v0,v1] H =
 (b9 (.int .i64) .gtr v0 (.int .i64 0)).bind fun x6 =>
 l4 x6 (
 (b9 (.int .i64) .rem (strip v0) (.int .i64 10)).bind fun x8 =>
 (b9 (.int .i64) .add (.int .i64 48) x8).bind fun x9 =>
 (acZ .u8 x9).bind fun x10 =>
 (A8 x10).bind fun y12 =>
 (adw (.sl true [[y12]]) H).bind fun x13 =>
 (b9 .str .add x13 v1).bind fun x15 =>
 (b9 (.int .i64) .quo (strip (strip v0)) (.int .i64 10)).bind fun x18 =>
 some (none,[x18,x15],H)) (
 some (some 0,[v1],H)):=by kernel_rfl
theorem akx (a0:V) (H:VH):cv K0 [a0] H =
 (b9 (.int .i64) .leq a0 (.int .i64 0)).bind fun x2 =>
 l4 x2 (
 some ((.str [109,48]),H)) (
 (m9 ae7 [(strip a0),(.str [])] H).bind fun r20 =>
 C2 r20.1 [
 m6 1 r20.2.1 fun v21 =>
 (b9 .str .add (.str [109]) (v21 0)).bind fun x23 =>
 some (x23,r20.2.2)]):=(j4 vb _ _ _ rfl).trans (by kernel_rfl)
theorem akM (a0 a1:V) (H:VH):cv S3 [a0,a1] H =
 (B3 3 a0).bind fun c1 =>
 (qc N6 [(j7 H (strip (c1.getD 1 .g8))),(j7 H a1)]).bind fun x6 =>
 (b9 (.int .i64) .lss x6 (.int .i64 0)).bind fun x9 =>
 l4 x9 (
 some ((.int .i64 (-1)),H)) (
 (qc N6 [(j7 H (strip (c1.getD 2 .g8))),(j7 H (strip x6))]).bind fun x14 =>
 (b9 (.int .i64) .lss x14 (.int .i64 0)).bind fun x17 =>
 l4 x17 (
 some ((.int .i64 (-1)),H)) (
 some ((strip x14),H))):=(j4 vb _ _ _ rfl).trans (by kernel_rfl)
noncomputable def adn:List V->VH->Option (Option Nat × List V × VH):=C8 (vb.ctx cv m9) (vb.b.H7 49) (vb.C9 49) ⟨⟨[0,1,5],[],[]⟩,[(.exit 0,⟨[1],[],[]⟩),(.ret,⟨[4],[],[]⟩)]⟩ (C7 Tryz.f49 2)
theorem afX (v0 v1 v2:V) (H:VH):adn [v0,v1,v2] H =
 (B9 (strip v0)).bind fun x4 =>
 (b9 (.int .i64) .lss v2 x4).bind fun x5 =>
 l4 x5 (
 (C3 1 (strip v0) (strip v2)).bind fun x8 =>
 (O2 I7 false false 1 x8 H).bind fun r10 =>
 (qc K0 [(j7 r10.2 v1)]).bind fun x12 =>
 (b9 .str .neq r10.1 x12).bind fun x13 =>
 l4 x13 (
 some (some 1,[(.int .i64 (-1))],r10.2)) (
 (b9 (.int .i64) .add (strip v1) (.int .i64 1)).bind fun x16 =>
 (b9 (.int .i64) .add (strip (strip v2)) (.int .i64 1)).bind fun x19 =>
 some (none,[v0,x16,x19],r10.2))) (
 some (some 0,[v1],H)):=by kernel_rfl
theorem ahD (a0 a1:V) (H:VH):cv N6 [a0,a1] H =
 (m9 adn [a0,a1,(.int .i64 0)] H).bind fun r21 =>
 C2 r21.1 [
 m6 1 r21.2.1 fun v22 =>
 some ((v22 0),r21.2.2),
 m6 1 r21.2.1 fun v25 =>
 some ((v25 0),r21.2.2)]:=(j4 vb _ _ _ rfl).trans (by kernel_rfl)
end Go.Proofs.YtpbgpeojlfdpoaaGreatDoor.Q
