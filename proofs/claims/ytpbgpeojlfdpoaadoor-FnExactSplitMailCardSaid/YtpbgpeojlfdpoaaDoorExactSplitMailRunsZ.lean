/- What a call of each function comes to. -/
import Derived.Test.YtpbgpeojlfdpoaaDoorExactSplitMailBaseZ
namespace Go.Proofs.YtpbgpeojlfdpoaaDoor.Q
open Go Go.AM Go.Proofs
set_option linter.unusedVariables false
set_option maxRecDepth 100000
theorem aeC (a0:V) (H:VH):cv Q8 [a0] H =
 (C1 3 a0).bind fun c1 =>
 (qco V7 H [(.agg [(strip (c1.getD 0 .g8)),(strip (c1.getD 1 .g8)),(strip (c1.getD 2 .g8))]),(.int .i64 1048576)]).bind fun x6 =>
 (a8 (.int .i64) .lss x6 (.int .i64 0)).bind fun x9 =>
 j8 x9 (
 some ((.bool true),H)) (
 (cv Q5 [(.agg [(strip (strip (c1.getD 0 .g8))),(strip (strip (c1.getD 1 .g8))),(strip (strip (c1.getD 2 .g8)))])] H).bind fun r13 =>
 (pco O8 r13.2 [r13.1]).bind fun x14 =>
 (B8 x14 0).bind fun x16 =>
 (B8 x14 1).bind fun x17 =>
 (cv Q5 [(.agg [(strip (strip (c1.getD 0 .g8))),(strip (strip (c1.getD 1 .g8))),(strip (strip (c1.getD 2 .g8)))])] r13.2).bind fun r22 =>
 (C1 3 r22.1).bind fun c25 =>
 (pcg H6 r22.2 [(.agg [(c25.getD 0 .g8),(c25.getD 1 .g8),(c25.getD 2 .g8)])]).bind fun r28 =>
 (B8 r28.1 0).bind fun x30 =>
 (B8 r28.1 1).bind fun x31 =>
 (id (
 (qco N6 r28.2 [(strip (strip (strip x30))),(strip (strip (strip x16)))]).bind fun x36 =>
 (I9 .not x36).bind fun x37 =>
 l7 x37 (
 some (0,[(.bool false)],r28.2)) (
 (a8 .bool .neq (strip x31) (strip x17)).bind fun x43 =>
 j8 x43 (
 some (0,[(.bool false)],r28.2)) (
 some (1,[(strip (strip x16)),(strip (strip x17)),(strip (strip x30)),(strip (strip x31)),(c1.getD 0 .g8),(c1.getD 1 .g8),(c1.getD 2 .g8),(strip (c25.getD 0 .g8)),(strip (c25.getD 1 .g8)),(strip (c25.getD 2 .g8))],r28.2))):Option (Nat × List V × VH))).bind fun r46 =>
 B5 r46.1 [
 l8 1 r46.2.1 fun v47 =>
 some ((v47 0),r46.2.2),
 l8 10 r46.2.1 fun v48 =>
 (cv Q5 [(.agg [(strip (strip (v48 4))),(strip (strip (v48 5))),(strip (strip (v48 6)))])] r46.2.2).bind fun r52 =>
 (qco W5 r52.2 [(.agg [(strip (v48 7)),(strip (v48 8)),(strip (v48 9))]),r52.1]).bind fun x53 =>
 (I9 .not x53).bind fun x54 =>
 j8 x54 (
 some ((.bool false),r52.2)) (
 (cv abO [(.agg [(strip (strip (v48 7))),(strip (strip (v48 8))),(strip (strip (v48 9)))]),(.int .i64 1)] r52.2).bind fun r60 =>
 (id (
 (a8 (.int .i64) .lss r60.1 (.int .i64 0)).bind fun x63 =>
 l7 x63 (
 some (0,[(.bool false)],r60.2)) (
 (qco N6 r60.2 [(strip (v48 2)),(strip (v48 0))]).bind fun x71 =>
 (I9 .not x71).bind fun x72 =>
 l7 x72 (
 some (0,[(.bool false)],r60.2)) (
 (a8 .bool .neq (v48 3) (v48 1)).bind fun x79 =>
 j8 x79 (
 some (0,[(.bool false)],r60.2)) (
 some (1,[(v48 0),(strip (v48 1)),(v48 2),(v48 4),(v48 5),(v48 6)],r60.2)))):Option (Nat × List V × VH))).bind fun r82 =>
 B5 r82.1 [
 l8 1 r82.2.1 fun v83 =>
 some ((v83 0),r82.2.2),
 l8 6 r82.2.1 fun v84 =>
 (cv abd [(strip (strip (v84 2))),(.int .i64 1)] r82.2.2).bind fun r89 =>
 (qco L1 r89.2 [(strip (v84 2)),(.int .i64 1)]).bind fun x94 =>
 (a8 (.int .i64) .lss x94 (.int .i64 0)).bind fun x97 =>
 j8 x97 (
 some ((.bool false),r89.2)) (
 (a8 (.int .i64) .neq (strip x94) r89.1).bind fun x101 =>
 j8 x101 (
 some ((.bool false),r89.2)) (
 (cv Q5 [(.agg [(strip (strip (v84 3))),(strip (strip (v84 4))),(strip (strip (v84 5)))])] r89.2).bind fun r105 =>
 (pcg H6 r105.2 [r105.1]).bind fun r107 =>
 (B8 r107.1 0).bind fun x109 =>
 (B8 r107.1 1).bind fun x110 =>
 (id (
 (qco N6 r107.2 [(strip (strip (strip x109))),(strip (v84 0))]).bind fun x115 =>
 (I9 .not x115).bind fun x116 =>
 l7 x116 (
 some (0,[(.bool false)],r107.2)) (
 (a8 .bool .neq (strip x110) (v84 1)).bind fun x122 =>
 j8 x122 (
 some (0,[(.bool false)],r107.2)) (
 some (1,[(v84 2),(strip r89.1)],r107.2))):Option (Nat × List V × VH))).bind fun r125 =>
 B5 r125.1 [
 l8 1 r125.2.1 fun v126 =>
 some ((v126 0),r125.2.2),
 l8 2 r125.2.1 fun v127 =>
 (qco L1 r125.2.2 [(strip (v127 0)),(.int .i64 1)]).bind fun x131 =>
 (a8 (.int .i64) .lss x131 (.int .i64 0)).bind fun x134 =>
 j8 x134 (
 some ((.bool false),r125.2.2)) (
 (a8 (.int .i64) .neq (strip x131) (v127 1)).bind fun x138 =>
 j8 x138 (
 some ((.bool false),r125.2.2)) (
 some ((.bool true),r125.2.2)))]))])]):=(g9 vb _ _ _ rfl).trans (by kernel_rfl)
theorem ak7 (a0 a1:V) (H:VH):cv V7 [a0,a1] H =
 (C1 3 a0).bind fun c1 =>
 (w6 (strip (c1.getD 0 .g8))).bind fun x6 =>
 (a8 (.int .i64) .sub a1 x6).bind fun x7 =>
 (a8 (.int .i64) .lss x7 (.int .i64 0)).bind fun x10 =>
 j8 x10 (
 some ((.int .i64 (-1)),H)) (
 (qc P0 [(l4 H (strip (c1.getD 1 .g8))),(l4 H (strip x7))]).bind fun x15 =>
 (a8 (.int .i64) .lss x15 (.int .i64 0)).bind fun x18 =>
 j8 x18 (
 some ((.int .i64 (-1)),H)) (
 (qc P0 [(l4 H (strip (c1.getD 2 .g8))),(l4 H (strip x15))]).bind fun x23 =>
 (a8 (.int .i64) .lss x23 (.int .i64 0)).bind fun x26 =>
 j8 x26 (
 some ((.int .i64 (-1)),H)) (
 some ((strip x23),H)))):=(g9 vb _ _ _ rfl).trans (by kernel_rfl)
noncomputable def T9:List V->VH->Option (Option Nat × List V × VH):=y4 (vb.ctx cv j4) (vb.b.E2 13) (vb.A0 13) ⟨⟨[0,1,5],[],[]⟩,[(.exit 0,⟨[1],[],[]⟩),(.ret,⟨[4],[],[]⟩)]⟩ (y2 Tryd.f13 5)
theorem ab0 (v0 v1 v2:V) (H:VH):T9 [v0,v1,v2] H =
 (s8 (strip v0)).bind fun x12 =>
 (a8 (.int .i64) .lss v2 x12).bind fun x13 =>
 j8 x13 (
 (s6 1 (strip v0) (strip v2)).bind fun x17 =>
 (y3 o7 false false 1 x17 H).bind fun r19 =>
 (w6 r19.1).bind fun x20 =>
 (a8 (.int .i64) .sub v1 x20).bind fun x21 =>
 (a8 (.int .i64) .lss x21 (.int .i64 0)).bind fun x24 =>
 j8 x24 (
 some (some 1,[(.int .i64 (-1))],r19.2)) (
 (a8 (.int .i64) .add (strip (strip v2)) (.int .i64 1)).bind fun x27 =>
 some (none,[v0,(strip x21),x27],r19.2))) (
 some (some 0,[v1],H)):=by kernel_rfl
theorem aie (a0 a1:V) (H:VH):cv P0 [a0,a1] H =
 (s8 (strip a0)).bind fun x3 =>
 (a8 (.int .i64) .sub a1 x3).bind fun x4 =>
 (a8 (.int .i64) .lss x4 (.int .i64 0)).bind fun x7 =>
 j8 x7 (
 some ((.int .i64 (-1)),H)) (
 (j4 T9 [a0,(strip x4),(.int .i64 0)] H).bind fun r29 =>
 B5 r29.1 [
 l8 1 r29.2.1 fun v30 =>
 some ((v30 0),r29.2.2),
 l8 1 r29.2.1 fun v33 =>
 some ((v33 0),r29.2.2)]):=(g9 vb _ _ _ rfl).trans (by kernel_rfl)
theorem alo (a0:V) (H:VH):cv Q5 [a0] H =
 (C1 3 a0).bind fun c1 =>
 (w5 (strip (c1.getD 0 .g8))).bind fun y8 =>
 (cv V1 [(strip (strip (c1.getD 1 .g8)))] H).bind fun r12 =>
 (w5 r12.1).bind fun y15 =>
 (cv V1 [(strip (strip (c1.getD 2 .g8)))] r12.2).bind fun r19 =>
 (w5 r19.1).bind fun y22 =>
 some ((.agg [y8,y15,y22]),r19.2):=(g9 vb _ _ _ rfl).trans (by kernel_rfl)
noncomputable def adH:List V->VH->Option (Option Nat × List V × VH):=y4 (vb.ctx cv j4) (vb.b.E2 16) (vb.A0 16) ⟨⟨[0,3,4],[],[]⟩,[(.exit 0,⟨[3],[],[]⟩)]⟩ (y2 Tryd.f16 3)
theorem af6 (v0 v1 v2:V) (H:VH):adH [v0,v1,v2] H =
 (s8 (strip v0)).bind fun x8 =>
 (a8 (.int .i64) .lss v2 x8).bind fun x9 =>
 j8 x9 (
 (s6 1 (strip v0) (strip (strip v2))).bind fun x14 =>
 (y3 o7 false false 1 x14 H).bind fun r16 =>
 (s6 1 (strip v1) (strip v2)).bind fun x17 =>
 (w5 r16.1).bind fun y19 =>
 (M6 x17 [y19] r16.2).bind fun H20 =>
 (a8 (.int .i64) .add (strip (strip (strip v2))) (.int .i64 1)).bind fun x22 =>
 some (none,[v0,v1,x22],H20)) (
 some (some 0,[v1],H)):=by kernel_rfl
theorem ah8 (a0:V) (H:VH):cv V1 [a0] H =
 (s8 (strip a0)).bind fun x2 =>
 (afi 16 x2 x2).bind fun x3 =>
 (j4 adH [a0,(.m8 H.length 0 x3.1 1),(.int .i64 0)] (H++[W3 x3.2 [(.str [])]])).bind fun r24 =>
 B5 r24.1 [
 l8 1 r24.2.1 fun v25 =>
 some ((v25 0),r24.2.2)]:=(g9 vb _ _ _ rfl).trans (by kernel_rfl)
theorem aih (a0:V) (H:VH):cv O8 [a0] H =
 (C1 3 a0).bind fun c1 =>
 (cv S4 [(.agg [(c1.getD 0 .g8),(c1.getD 1 .g8),(c1.getD 2 .g8)])] H).bind fun r6 =>
 (B8 r6.1 0).bind fun x8 =>
 (B8 r6.1 1).bind fun x9 =>
 (pc N0 [(l4 r6.2 (strip (strip (strip x8))))]).bind fun x13 =>
 some ((.u6 [x13,(strip x9)]),r6.2):=(g9 vb _ _ _ rfl).trans (by kernel_rfl)
noncomputable def aaA:List V->VH->Option (Option Nat × List V × VH):=y4 (vb.ctx cv j4) (vb.b.E2 14) (vb.A0 14) ⟨⟨[6,7,8,9,10,11],[(4,(4,0))],[(4,3)]⟩,[(.exit 2,⟨[6,7,8,10],[(4,(4,0))],[(4,3)]⟩)]⟩ (y2 Tryd.f14 14)
noncomputable def abb:List V->VH->Option (Option Nat × List V × VH):=y4 (vb.ctx cv j4) (vb.b.E2 14) (vb.A0 14) ⟨⟨[6,7,8],[(4,(4,0))],[(4,3)]⟩,[(.exit 0,⟨[6],[],[]⟩)]⟩ (y2 Tryd.f14 7)
theorem adg (v0 v1 v2 v3 v4 v5 v6 v7 v8:V) (H:VH):aaA [v0,v1,v2,v3,v4,v5,v6,v7,v8] H =
 (s8 (strip v7)).bind fun x63 =>
 (a8 (.int .i64) .lss v5 x63).bind fun x64 =>
 j8 x64 (
 (id (
 (s6 1 (strip v7) (strip v5)).bind fun x68 =>
 (y3 o7 false false 1 x68 H).bind fun r70 =>
 (qc P4 [(l4 r70.2 r70.1)]).bind fun x71 =>
 (a8 .str .eql x71 v3).bind fun x73 =>
 j8 x73 (
 (K4 v4 1).bind fun x74 =>
 (y3 o7 true false 1 x74 r70.2).bind fun r76 =>
 (s6 1 (strip v7) (strip (strip v5))).bind fun x80 =>
 (y3 o7 false false 1 x80 r76.2).bind fun r82 =>
 (w5 r82.1).bind fun y84 =>
 (aaE r76.1).bind fun s86 =>
 (F1 false 1 16 s86 (.sl true [[y84]])).bind fun x85 =>
 (K4 v4 1).bind fun x87 =>
 (w5 x85).bind fun y89 =>
 (M6 x87 [y89] r82.2).bind fun H90 =>
 some (0,[v0,v1,v2,(strip v3),v4,(strip (strip (strip v5))),v6,v7,v8],H90)) (
 some (0,[v0,v1,v2,(strip v3),v4,(strip (strip v5)),v6,v7,v8],r70.2)):Option (Nat × List V × VH))).bind fun r91 =>
 B5 r91.1 [
 l8 9 r91.2.1 fun v92 =>
 (a8 (.int .i64) .add (v92 5) (.int .i64 1)).bind fun x94 =>
 some (none,[(v92 0),(v92 1),(v92 2),(v92 3),(v92 4),x94,(v92 6),(v92 7),(v92 8)],r91.2.2)]) (
 some (some 0,[v0,v1,v2,v4,v6,v7,v8],H)):=by kernel_rfl
theorem adx (v0 v1 v2 v3 v4 v5:V) (H:VH):abb [v0,v1,v2,v3,v4,v5] H =
 (s8 (strip v4)).bind fun x27 =>
 (a8 (.int .i64) .lss v2 x27).bind fun x28 =>
 j8 x28 (
 (id (
 (s6 1 (strip v4) (strip v2)).bind fun x32 =>
 (y3 o7 false false 1 x32 H).bind fun r34 =>
 (qc P4 [(l4 r34.2 r34.1)]).bind fun x35 =>
 (qc aa9 [(l4 r34.2 (strip v1)),(l4 r34.2 x35)]).bind fun x39 =>
 j8 x39 (
 some (0,[v0,v1,(strip (strip v2)),v3,v4,v5],r34.2)) (
 (w5 (strip x35)).bind fun y43 =>
 (aaE v1).bind fun s45 =>
 (F1 false 1 16 s45 (.sl true [[y43]])).bind fun x44 =>
 (F1 false 1 16 [] v5).bind fun x52 =>
 (w5 (strip v3)).bind fun y54 =>
 (w5 x52).bind fun y55 =>
 (M6 (.ptr r34.2.length 0) [y54,(.sl true []),y55] (r34.2++[[(.str []),(.sl true []),(.sl true [])]])).bind fun H58 =>
 (j4 aaA [v0,x44,(strip (strip v2)),(strip (strip x35)),(.ptr r34.2.length 0),(.int .i64 0),v3,v4,(strip v5)] H58).bind fun r96 =>
 B5 r96.1 [
 l8 7 r96.2.1 fun v97 =>
 (y3 o7 true true 3 (v97 3) r96.2.2).bind fun r100 =>
 (C1 3 r100.1).bind fun c102 =>
 (aaE (v97 0)).bind fun s104 =>
 (F1 false 3 64 s104 (.sl true [[(c102.getD 0 .g8),(c102.getD 1 .g8),(c102.getD 2 .g8)]])).bind fun x103 =>
 some (0,[x103,(v97 1),(v97 2),(v97 4),(v97 5),(v97 6)],r100.2)]):Option (Nat × List V × VH))).bind fun r106 =>
 B5 r106.1 [
 l8 6 r106.2.1 fun v107 =>
 (a8 (.int .i64) .add (v107 2) (.int .i64 1)).bind fun x109 =>
 some (none,[(v107 0),(v107 1),x109,(v107 3),(v107 4),(v107 5)],r106.2.2)]) (
 some (some 0,[v0],H)):=by kernel_rfl
theorem aeG (a0:V) (H:VH):cv S4 [a0] H =
 (C1 3 a0).bind fun c1 =>
 (cv aar [(.agg [(c1.getD 0 .g8),(c1.getD 1 .g8),(c1.getD 2 .g8)])] H).bind fun r6 =>
 (B8 r6.1 0).bind fun x8 =>
 (B8 (acF 0 r6.1) 1).bind fun x9 =>
 (C1 3 x8).bind fun c12 =>
 (I9 .not (strip x9)).bind fun x17 =>
 j8 x17 (
 some ((.u6 [(.sl true []),(.bool false)]),r6.2)) (
 (j4 abb [(.sl true []),(.sl true []),(.int .i64 0),(c12.getD 0 .g8),(c12.getD 1 .g8),(c12.getD 2 .g8)] r6.2).bind fun r111 =>
 B5 r111.1 [
 l8 1 r111.2.1 fun v112 =>
 some ((.u6 [(v112 0),(.bool true)]),r111.2.2)]):=(g9 vb _ _ _ rfl).trans (by kernel_rfl)
noncomputable def ac3:List V->VH->Option (Option Nat × List V × VH):=y4 (vb.ctx cv j4) (vb.b.E2 27) (vb.A0 27) ⟨⟨[4,5],[(1,(1,0)),(2,(2,0))],[(1,3),(2,3)]⟩,[(.exit 0,⟨[4],[(2,(2,0))],[(2,3)]⟩)]⟩ (y2 Tryd.f27 5)
theorem afI (v0 v1 v2 v3 v4 v5 v6 v7:V) (H:VH):ac3 [v0,v1,v2,v3,v4,v5,v6,v7] H =
 (s8 (strip v3)).bind fun x26 =>
 (a8 (.int .i64) .lss v1 x26).bind fun x27 =>
 j8 x27 (
 (id (
 (K4 v0 1).bind fun x28 =>
 (y3 o7 false false 1 x28 H).bind fun r30 =>
 (s6 1 (strip v3) (strip v1)).bind fun x34 =>
 (y3 o7 false false 1 x34 r30.2).bind fun r36 =>
 (qc aa9 [(l4 r36.2 r30.1),(l4 r36.2 r36.1)]).bind fun x37 =>
 (I9 .not x37).bind fun x38 =>
 j8 x38 (
 (K4 v0 1).bind fun x39 =>
 (y3 o7 true false 1 x39 r36.2).bind fun r41 =>
 (s6 1 (strip v3) (strip (strip v1))).bind fun x45 =>
 (y3 o7 false false 1 x45 r41.2).bind fun r47 =>
 (w5 r47.1).bind fun y49 =>
 (aaE r41.1).bind fun s51 =>
 (F1 false 1 16 s51 (.sl true [[y49]])).bind fun x50 =>
 (K4 v0 1).bind fun x52 =>
 (w5 x50).bind fun y54 =>
 (M6 x52 [y54] r47.2).bind fun H55 =>
 some (0,[v0,(strip (strip (strip v1))),v2,v3,v4,v5,v6,v7],H55)) (
 some (0,[v0,(strip (strip v1)),v2,v3,v4,v5,v6,v7],r36.2)):Option (Nat × List V × VH))).bind fun r56 =>
 B5 r56.1 [
 l8 8 r56.2.1 fun v57 =>
 (a8 (.int .i64) .add (v57 1) (.int .i64 1)).bind fun x59 =>
 some (none,[(v57 0),x59,(v57 2),(v57 3),(v57 4),(v57 5),(v57 6),(v57 7)],r56.2.2)]) (
 some (some 0,[v0,v5,v6,v7],H)):=by kernel_rfl
theorem ahb (a0:V) (H:VH):cv aar [a0] H =
 (C1 3 a0).bind fun c1 =>
 (qc abi [(l4 H (.agg [(strip (c1.getD 0 .g8)),(strip (c1.getD 1 .g8)),(strip (c1.getD 2 .g8))]))]).bind fun x5 =>
 (I9 .not x5).bind fun x6 =>
 j8 x6 (
 some ((.u6 [(.agg [(.str []),(.sl true []),(.sl true [])]),(.bool false)]),H)) (
 (F1 false 1 16 [] (c1.getD 2 .g8)).bind fun x15 =>
 (w5 (strip (c1.getD 0 .g8))).bind fun y17 =>
 (w5 x15).bind fun y18 =>
 (M6 (.ptr H.length 0) [y17,(.sl true []),y18] (H++[[(.str []),(.sl true []),(.sl true [])]])).bind fun H21 =>
 (j4 ac3 [(.ptr H.length 0),(.int .i64 0),(c1.getD 0 .g8),(c1.getD 1 .g8),(strip (c1.getD 2 .g8)),(.str []),(.sl true []),(.sl true [])] H21).bind fun r61 =>
 B5 r61.1 [
 l8 4 r61.2.1 fun v62 =>
 (y3 o7 true true 3 (v62 0) r61.2.2).bind fun r64 =>
 (C1 3 r64.1).bind fun c66 =>
 some ((.u6 [(.agg [(c66.getD 0 .g8),(c66.getD 1 .g8),(c66.getD 2 .g8)]),(.bool true)]),r64.2)]):=(g9 vb _ _ _ rfl).trans (by kernel_rfl)
theorem aid (a0:V) (H:VH):cv abi [a0] H =
 (C1 3 a0).bind fun c1 =>
 (qc abJ [(l4 H (.agg [(strip (c1.getD 0 .g8)),(strip (c1.getD 1 .g8)),(strip (c1.getD 2 .g8))]))]).bind fun x4 =>
 l7 x4 (
 (s8 (strip (c1.getD 1 .g8))).bind fun x8 =>
 (a8 (.int .i64) .gtr x8 (.int .i64 0)).bind fun x9 =>
 l7 x9 (
 (s8 (strip (c1.getD 2 .g8))).bind fun x14 =>
 (a8 (.int .i64) .leq x14 (.int .i64 30)).bind fun x15 =>
 some (x15,H)) (
 some ((.bool false),H))) (
 some ((.bool false),H)):=(g9 vb _ _ _ rfl).trans (by kernel_rfl)
noncomputable def Z4:List V->VH->Option (Option Nat × List V × VH):=y4 (vb.ctx cv j4) (vb.b.E2 43) (vb.A0 43) ⟨⟨[3],[(1,(1,0))],[(1,3)]⟩,[(.exit 0,⟨[],[(1,(1,0))],[(1,3)]⟩),(.ret,⟨[2],[],[]⟩)]⟩ (y2 Tryd.f43 4)
noncomputable def Y7:List V->VH->Option (Option Nat × List V × VH):=y4 (vb.ctx cv j4) (vb.b.E2 43) (vb.A0 43) ⟨⟨[4],[(1,(1,0))],[(1,3)]⟩,[(.exit 2,⟨[],[],[]⟩),(.ret,⟨[2],[],[]⟩)]⟩ (y2 Tryd.f43 9)
theorem acx (v0 v1 v2 v3:V) (H:VH):Z4 [v0,v1,v2,v3] H =
 (s8 (strip v2)).bind fun x54 =>
 (a8 (.int .i64) .lss v0 x54).bind fun x55 =>
 j8 x55 (
 (s6 1 (strip v2) (strip v0)).bind fun x59 =>
 (y3 o7 false false 1 x59 H).bind fun r61 =>
 (qc aaW [(l4 r61.2 r61.1)]).bind fun x62 =>
 (I9 .not x62).bind fun x63 =>
 j8 x63 (
 some (some 1,[(.bool false)],r61.2)) (
 (a8 (.int .i64) .add (strip (strip v0)) (.int .i64 1)).bind fun x66 =>
 some (none,[x66,v1,v2,v3],r61.2))) (
 some (some 0,[v1,v2,v3],H)):=by kernel_rfl
theorem acw (v0 v1 v2 v3:V) (H:VH):Y7 [v0,v1,v2,v3] H =
 (s8 (strip v3)).bind fun x74 =>
 (a8 (.int .i64) .lss v0 x74).bind fun x75 =>
 j8 x75 (
 (s6 1 (strip v3) (strip v0)).bind fun x79 =>
 (y3 o7 false false 1 x79 H).bind fun r81 =>
 (qc V2 [(l4 r81.2 r81.1)]).bind fun x82 =>
 (I9 .not x82).bind fun x83 =>
 j8 x83 (
 some (some 1,[(.bool false)],r81.2)) (
 (a8 (.int .i64) .add (strip (strip v0)) (.int .i64 1)).bind fun x86 =>
 some (none,[x86,v1,v2,v3],r81.2))) (
 some (some 0,[],H)):=by kernel_rfl
theorem aje (a0:V) (H:VH):cv abJ [a0] H =
 (C1 3 a0).bind fun c1 =>
 (id (
 (a8 .str .neq (strip (c1.getD 0 .g8)) (.str [])).bind fun x5 =>
 l7 x5 (
 (qc aaW [(l4 H (strip (c1.getD 0 .g8)))]).bind fun x9 =>
 (I9 .not x9).bind fun x10 =>
 l7 x10 (
 some (0,[(.bool false)],H)) (
 (s8 (strip (c1.getD 1 .g8))).bind fun x19 =>
 (a8 (.int .i64) .gtr x19 (.int .i64 10)).bind fun x20 =>
 l7 x20 (
 some (0,[(.bool false)],H)) (
 (s8 (strip (c1.getD 2 .g8))).bind fun x27 =>
 (a8 (.int .i64) .gtr x27 (.int .i64 31)).bind fun x28 =>
 j8 x28 (
 some (0,[(.bool false)],H)) (
 some (1,[(c1.getD 0 .g8),(c1.getD 1 .g8),(c1.getD 2 .g8)],H))))) (
 (s8 (strip (c1.getD 1 .g8))).bind fun x35 =>
 (a8 (.int .i64) .gtr x35 (.int .i64 10)).bind fun x36 =>
 l7 x36 (
 some (0,[(.bool false)],H)) (
 (s8 (strip (c1.getD 2 .g8))).bind fun x43 =>
 (a8 (.int .i64) .gtr x43 (.int .i64 31)).bind fun x44 =>
 j8 x44 (
 some (0,[(.bool false)],H)) (
 some (1,[(c1.getD 0 .g8),(c1.getD 1 .g8),(c1.getD 2 .g8)],H)))):Option (Nat × List V × VH))).bind fun r47 =>
 B5 r47.1 [
 l8 1 r47.2.1 fun v48 =>
 some ((v48 0),r47.2.2),
 l8 3 r47.2.1 fun v49 =>
 (j4 Z4 [(.int .i64 0),(v49 0),(v49 1),(v49 2)] r47.2.2).bind fun r68 =>
 B5 r68.1 [
 l8 3 r68.2.1 fun v69 =>
 (j4 Y7 [(.int .i64 0),(v69 0),(v69 1),(v69 2)] r68.2.2).bind fun r88 =>
 B5 r88.1 [
 l8 0 r88.2.1 fun v89 =>
 some ((.bool true),r88.2.2),
 l8 1 r88.2.1 fun v91 =>
 some ((v91 0),r88.2.2)],
 l8 1 r68.2.1 fun v92 =>
 some ((v92 0),r68.2.2)]]:=(g9 vb _ _ _ rfl).trans (by kernel_rfl)
theorem akJ (a0:V) (H:VH):cv aaW [a0] H =
 (pc adw [(l4 H a0)]).bind fun x2 =>
 (B8 x2 0).bind fun x4 =>
 (B8 x2 1).bind fun x5 =>
 (C1 3 (strip x4)).bind fun c8 =>
 l7 (strip x5) (
 (a8 .str .add (strip (c8.getD 1 .g8)) (.str [64])).bind fun x14 =>
 (a8 .str .add x14 (strip (c8.getD 2 .g8))).bind fun x17 =>
 (a8 .str .eql x17 (strip a0)).bind fun x19 =>
 some (x19,H)) (
 some ((.bool false),H)):=(g9 vb _ _ _ rfl).trans (by kernel_rfl)
theorem amf (a0:V) (H:VH):cv adw [a0] H =
 (qc O6 [(l4 H a0),(l4 H (.int .u8 64))]).bind fun x3 =>
 (B8 x3 0).bind fun x5 =>
 (B8 x3 1).bind fun x6 =>
 (B8 x3 2).bind fun x7 =>
 (qc U8 [(l4 H (strip x6))]).bind fun x13 =>
 (w5 (strip x5)).bind fun y15 =>
 (w5 x13).bind fun y16 =>
 l7 (strip x7) (
 (qc Z3 [(l4 H (.agg [(.str []),(strip y15),(strip y16)]))]).bind fun x23 =>
 some ((.u6 [(.agg [(.str []),(strip y15),(strip y16)]),x23]),H)) (
 some ((.u6 [(.agg [(.str []),(strip y15),(strip y16)]),(.bool false)]),H)):=(g9 vb _ _ _ rfl).trans (by kernel_rfl)
noncomputable def agz:List V->VH->Option (Option Nat × List V × VH):=y4 (vb.ctx cv j4) (vb.b.E2 35) (vb.A0 35) ⟨⟨[0,1,7],[],[]⟩,[(.exit 0,⟨[0],[],[]⟩),(.ret,⟨[4,5,6],[],[]⟩)]⟩ (y2 Tryd.f35 2)
theorem aji (v0 v1 v2:V) (H:VH):agz [v0,v1,v2] H =
 (w6 v0).bind fun x6 =>
 (a8 (.int .i64) .lss v2 x6).bind fun x7 =>
 j8 x7 (
 (p8 (strip v0) (strip v2)).bind fun x10 =>
 (a8 (.int .u8) .eql x10 (.int .u8 34)).bind fun x11 =>
 j8 x11 (
 (qc aaZ [(l4 H (strip (strip v0))),(l4 H (strip (strip v2)))]).bind fun x14 =>
 (B8 x14 0).bind fun x16 =>
 (B8 x14 1).bind fun x17 =>
 (a8 (.int .i64) .lss (strip x17) (.int .i64 0)).bind fun x21 =>
 j8 x21 (
 some (some 1,[(strip (strip (strip v0))),(.str []),(.bool false)],H)) (
 some (none,[(strip (strip (strip v0))),v1,(strip (strip x17))],H))) (
 (p8 (strip (strip v0)) (strip (strip v2))).bind fun x30 =>
 (a8 (.int .u8) .eql x30 v1).bind fun x32 =>
 j8 x32 (
 (E8 (strip (strip (strip v0))) none (some (strip (strip (strip v2))))).bind fun x35 =>
 (a8 (.int .i64) .add (strip (strip (strip (strip v2)))) (.int .i64 1)).bind fun x38 =>
 (E8 (strip (strip (strip (strip v0)))) (some x38) none).bind fun x39 =>
 some (some 1,[x35,x39,(.bool true)],H)) (
 (a8 (.int .i64) .add (strip (strip (strip v2))) (.int .i64 1)).bind fun x44 =>
 some (none,[(strip (strip (strip v0))),(strip v1),x44],H)))) (
 some (some 0,[(strip v0)],H)):=by kernel_rfl
theorem amd (a0 a1:V) (H:VH):cv O6 [a0,a1] H =
 (j4 agz [a0,a1,(.int .i64 0)] H).bind fun r46 =>
 B5 r46.1 [
 l8 1 r46.2.1 fun v47 =>
 some ((.u6 [(v47 0),(.str []),(.bool false)]),r46.2.2),
 l8 3 r46.2.1 fun v52 =>
 some ((.u6 [(v52 0),(v52 1),(v52 2)]),r46.2.2)]:=(g9 vb _ _ _ rfl).trans (by kernel_rfl)
noncomputable def afp:List V->VH->Option (Option Nat × List V × VH):=y4 (vb.ctx cv j4) (vb.b.E2 44) (vb.A0 44) ⟨⟨[0,6,7],[],[]⟩,[(.exit 0,⟨[],[],[]⟩),(.ret,⟨[4,5],[],[]⟩)]⟩ (y2 Tryd.f44 3)
theorem aic (v0 v1 v2:V) (H:VH):afp [v0,v1,v2] H =
 (w6 v0).bind fun x8 =>
 (a8 (.int .i64) .lss v2 x8).bind fun x9 =>
 j8 x9 (
 (id (
 (p8 (strip v0) (strip v2)).bind fun x12 =>
 (a8 (.int .u8) .eql x12 (.int .u8 34)).bind fun x13 =>
 j8 x13 (
 (a8 (.int .i64) .add (strip (strip v2)) (.int .i64 1)).bind fun x16 =>
 some (0,[v1,x16],H)) (
 (id (
 (p8 (strip (strip v0)) (strip (strip v2))).bind fun x21 =>
 (a8 (.int .u8) .eql x21 (.int .u8 92)).bind fun x22 =>
 j8 x22 (
 (a8 (.int .i64) .add (strip (strip (strip v2))) (.int .i64 1)).bind fun x24 =>
 (w6 (strip (strip (strip v0)))).bind fun x28 =>
 (a8 (.int .i64) .eql x24 x28).bind fun x29 =>
 j8 x29 (
 some (0,[(.str []),(.int .i64 (-1))],H)) (
 some (1,[(strip (strip (strip (strip v0)))),v1,(strip x24)],H))) (
 some (1,[(strip (strip (strip v0))),v1,(strip (strip (strip v2)))],H)):Option (Nat × List V × VH))).bind fun r32 =>
 B5 r32.1 [
 l8 2 r32.2.1 fun v33 =>
 some (0,[(v33 0),(v33 1)],r32.2.2),
 l8 3 r32.2.1 fun v34 =>
 (a8 (.int .i64) .add (strip (v34 2)) (.int .i64 1)).bind fun x39 =>
 (E8 (v34 0) (some (v34 2)) (some x39)).bind fun x40 =>
 (a8 .str .add (v34 1) x40).bind fun x41 =>
 some (1,[(strip (v34 0)),x41,(strip (strip (v34 2)))],r32.2.2)]):Option (Nat × List V × VH))).bind fun r43 =>
 B5 r43.1 [
 l8 2 r43.2.1 fun v44 =>
 some (some 1,[(v44 0),(v44 1)],r43.2.2),
 l8 3 r43.2.1 fun v45 =>
 (a8 (.int .i64) .add (v45 2) (.int .i64 1)).bind fun x47 =>
 some (none,[(v45 0),(v45 1),x47],r43.2.2)]) (
 some (some 0,[],H)):=by kernel_rfl
theorem alp (a0 a1:V) (H:VH):cv aaZ [a0,a1] H =
 (a8 (.int .i64) .add a1 (.int .i64 1)).bind fun x4 =>
 (j4 afp [a0,(.str []),x4] H).bind fun r49 =>
 B5 r49.1 [
 l8 0 r49.2.1 fun v50 =>
 some ((.u6 [(.str []),(.int .i64 (-1))]),r49.2.2),
 l8 2 r49.2.1 fun v53 =>
 some ((.u6 [(v53 0),(v53 1)]),r49.2.2)]:=(g9 vb _ _ _ rfl).trans (by kernel_rfl)
noncomputable def adI:List V->VH->Option (Option Nat × List V × VH):=y4 (vb.ctx cv j4) (vb.b.E2 70) (vb.A0 70) ⟨⟨[3,4],[],[]⟩,[(.exit 0,⟨[3],[],[]⟩)]⟩ (y2 Tryd.f70 3)
theorem agi (v0 v1:V) (H:VH):adI [v0,v1] H =
 (s8 (strip v0)).bind fun x7 =>
 (a8 (.int .i64) .lss v1 x7).bind fun x8 =>
 j8 x8 (
 (id (
 (s6 1 (strip v0) (strip v1)).bind fun x11 =>
 (y3 o7 false false 1 x11 H).bind fun r13 =>
 (a8 (.int .u8) .geq r13.1 (.int .u8 65)).bind fun x14 =>
 l7 x14 (
 (s6 1 (strip v0) (strip (strip v1))).bind fun x18 =>
 (y3 o7 false false 1 x18 r13.2).bind fun r20 =>
 (a8 (.int .u8) .leq r20.1 (.int .u8 90)).bind fun x21 =>
 j8 x21 (
 (s6 1 (strip v0) (strip (strip (strip (strip v1))))).bind fun x27 =>
 (y3 o7 false false 1 x27 r20.2).bind fun r29 =>
 (a8 (.int .u8) .add r29.1 (.int .u8 32)).bind fun x30 =>
 (s6 1 (strip v0) (strip (strip (strip v1)))).bind fun x31 =>
 (w5 x30).bind fun y33 =>
 (M6 x31 [y33] r29.2).bind fun H34 =>
 some (0,[v0,(strip (strip (strip (strip (strip v1)))))],H34)) (
 some (0,[v0,(strip (strip (strip v1)))],r20.2))) (
 some (0,[v0,(strip (strip v1))],r13.2)):Option (Nat × List V × VH))).bind fun r36 =>
 B5 r36.1 [
 l8 2 r36.2.1 fun v37 =>
 (a8 (.int .i64) .add (v37 1) (.int .i64 1)).bind fun x39 =>
 some (none,[(v37 0),x39],r36.2.2)]) (
 some (some 0,[v0],H)):=by kernel_rfl
theorem aij (a0:V) (H:VH):cv U8 [a0] H =
 (aqq a0).bind fun x2 =>
 (j4 adI [(.m8 H.length 0 x2.length 1),(.int .i64 0)] (H++[x2])).bind fun r41 =>
 B5 r41.1 [
 l8 1 r41.2.1 fun v42 =>
 (ag7 (strip (v42 0)) r41.2.2).bind fun x44 =>
 some (x44,r41.2.2)]:=(g9 vb _ _ _ rfl).trans (by kernel_rfl)
theorem agf (a0:V) (H:VH):cv Z3 [a0] H =
 (C1 3 a0).bind fun c1 =>
 (qc acG [(l4 H (strip (c1.getD 0 .g8)))]).bind fun x5 =>
 l7 x5 (
 (w6 (strip (c1.getD 1 .g8))).bind fun x9 =>
 (a8 (.int .i64) .leq x9 (.int .i64 30)).bind fun x10 =>
 l7 x10 (
 (qc ab7 [(l4 H (strip (c1.getD 1 .g8)))]).bind fun x15 =>
 l7 x15 (
 (w6 (strip (c1.getD 2 .g8))).bind fun x20 =>
 (a8 (.int .i64) .leq x20 (.int .i64 40)).bind fun x21 =>
 l7 x21 (
 (qc abK [(l4 H (strip (c1.getD 2 .g8)))]).bind fun x26 =>
 some (x26,H)) (
 some ((.bool false),H))) (
 some ((.bool false),H))) (
 some ((.bool false),H))) (
 some ((.bool false),H)):=(g9 vb _ _ _ rfl).trans (by kernel_rfl)
theorem alm (a0:V) (H:VH):cv acG [a0] H =
 (qc V2 [(l4 H a0)]).bind fun x2 =>
 l7 x2 (
 (w6 (strip a0)).bind fun x5 =>
 (a8 (.int .i64) .leq x5 (.int .i64 40)).bind fun x6 =>
 some (x6,H)) (
 some ((.bool false),H)):=(g9 vb _ _ _ rfl).trans (by kernel_rfl)
noncomputable def U7:List V->VH->Option (Option Nat × List V × VH):=y4 (vb.ctx cv j4) (vb.b.E2 52) (vb.A0 52) ⟨⟨[0,3],[],[]⟩,[(.exit 0,⟨[0],[],[]⟩),(.ret,⟨[2],[],[]⟩)]⟩ (y2 Tryd.f52 2)
theorem acr (v0 v1:V) (H:VH):U7 [v0,v1] H =
 (id (
 (w6 v0).bind fun x4 =>
 (a8 (.int .i64) .lss v1 x4).bind fun x5 =>
 l7 x5 (
 (a8 (.int .i64) .leq (strip v1) (.int .i64 200)).bind fun x8 =>
 j8 x8 (
 some (0,[(strip v0),(strip (strip v1))],H)) (
 some (1,[(strip v0)],H))) (
 some (1,[(strip v0)],H)):Option (Nat × List V × VH))).bind fun r11 =>
 B5 r11.1 [
 l8 2 r11.2.1 fun v12 =>
 (id (
 (p8 (v12 0) (v12 1)).bind fun x15 =>
 (a8 (.int .u8) .lss x15 (.int .u8 32)).bind fun x16 =>
 l7 x16 (
 some (0,[(.bool false)],r11.2.2)) (
 (p8 (strip (v12 0)) (strip (v12 1))).bind fun x22 =>
 (a8 (.int .u8) .gtr x22 (.int .u8 126)).bind fun x23 =>
 j8 x23 (
 some (0,[(.bool false)],r11.2.2)) (
 some (1,[(strip (strip (v12 0))),(strip (strip (v12 1)))],r11.2.2))):Option (Nat × List V × VH))).bind fun r26 =>
 B5 r26.1 [
 l8 1 r26.2.1 fun v27 =>
 some (some 1,[(v27 0)],r26.2.2),
 l8 2 r26.2.1 fun v28 =>
 (a8 (.int .i64) .add (v28 1) (.int .i64 1)).bind fun x30 =>
 some (none,[(v28 0),x30],r26.2.2)],
 l8 1 r11.2.1 fun v32 =>
 some (some 0,[(v32 0)],r11.2.2)]:=by kernel_rfl
theorem ah4 (a0:V) (H:VH):cv V2 [a0] H =
 (j4 U7 [a0,(.int .i64 0)] H).bind fun r33 =>
 B5 r33.1 [
 l8 1 r33.2.1 fun v34 =>
 (w6 (v34 0)).bind fun x36 =>
 (a8 (.int .i64) .leq x36 (.int .i64 200)).bind fun x37 =>
 some (x37,r33.2.2),
 l8 1 r33.2.1 fun v39 =>
 some ((v39 0),r33.2.2)]:=(g9 vb _ _ _ rfl).trans (by kernel_rfl)
noncomputable def K8:List V->VH->Option (Option Nat × List V × VH):=y4 (vb.ctx cv j4) (vb.b.E2 77) (vb.A0 77) ⟨⟨[0,3,4],[],[]⟩,[(.exit 0,⟨[0],[],[]⟩),(.ret,⟨[2],[],[]⟩)]⟩ (y2 Tryd.f77 3)
theorem adh (v0 v1 v2:V) (H:VH):K8 [v0,v1,v2] H =
 (s8 (strip v1)).bind fun x7 =>
 (a8 (.int .i64) .lss v2 x7).bind fun x8 =>
 j8 x8 (
 (s6 1 (strip v1) (strip v2)).bind fun x11 =>
 (y3 o7 false false 1 x11 H).bind fun r13 =>
 (qc abf [(l4 r13.2 r13.1)]).bind fun x14 =>
 (I9 .not x14).bind fun x15 =>
 j8 x15 (
 some (some 1,[(.bool false)],r13.2)) (
 (a8 (.int .i64) .add (strip (strip v2)) (.int .i64 1)).bind fun x18 =>
 some (none,[v0,v1,x18],r13.2))) (
 some (some 0,[v0],H)):=by kernel_rfl
theorem akG (a0:V) (H:VH):cv ab7 [a0] H =
 (pc K0 [(l4 H a0),(l4 H (.int .u8 46))]).bind fun x2 =>
 (j4 K8 [(strip a0),(strip x2),(.int .i64 0)] H).bind fun r20 =>
 B5 r20.1 [
 l8 1 r20.2.1 fun v21 =>
 (w6 (v21 0)).bind fun x23 =>
 (a8 (.int .i64) .leq x23 (.int .i64 30)).bind fun x24 =>
 some (x24,r20.2.2),
 l8 1 r20.2.1 fun v26 =>
 some ((v26 0),r20.2.2)]:=(g9 vb _ _ _ rfl).trans (by kernel_rfl)
noncomputable def aeT:List V->VH->Option (Option Nat × List V × VH):=y4 (vb.ctx cv j4) (vb.b.E2 82) (vb.A0 82) ⟨⟨[0,1,5,6,7],[],[]⟩,[(.exit 0,⟨[0,5,6],[],[]⟩)]⟩ (y2 Tryd.f82 4)
theorem ahz (v0 v1 v2 v3 v4:V) (H:VH):aeT [v0,v1,v2,v3,v4] H =
 (w6 v0).bind fun x7 =>
 (a8 (.int .i64) .lss v4 x7).bind fun x8 =>
 j8 x8 (
 (id (
 (p8 (strip v0) (strip v4)).bind fun x11 =>
 (a8 (.int .u8) .eql x11 v1).bind fun x13 =>
 j8 x13 (
 (E8 (strip (strip v0)) (some v3) (some (strip (strip v4)))).bind fun x18 =>
 (w5 x18).bind fun y20 =>
 (aaE v2).bind fun s22 =>
 (F1 false 1 16 s22 (.sl true [[y20]])).bind fun x21 =>
 (a8 (.int .i64) .add (strip (strip (strip v4))) (.int .i64 1)).bind fun x25 =>
 some (0,[(strip (strip (strip v0))),(strip v1),x21,x25,(strip (strip (strip (strip v4))))],H)) (
 some (0,[(strip (strip v0)),(strip v1),v2,v3,(strip (strip v4))],H)):Option (Nat × List V × VH))).bind fun r27 =>
 B5 r27.1 [
 l8 5 r27.2.1 fun v28 =>
 (a8 (.int .i64) .add (v28 4) (.int .i64 1)).bind fun x30 =>
 some (none,[(v28 0),(v28 1),(v28 2),(v28 3),x30],r27.2.2)]) (
 some (some 0,[(strip v0),v2,v3],H)):=by kernel_rfl
theorem ajR (a0 a1:V) (H:VH):cv K0 [a0,a1] H =
 (j4 aeT [a0,a1,(.sl true []),(.int .i64 0),(.int .i64 0)] H).bind fun r32 =>
 B5 r32.1 [
 l8 3 r32.2.1 fun v33 =>
 (E8 (v33 0) (some (v33 2)) none).bind fun x37 =>
 (w5 x37).bind fun y39 =>
 (aaE (v33 1)).bind fun s41 =>
 (F1 false 1 16 s41 (.sl true [[y39]])).bind fun x40 =>
 some (x40,r32.2.2)]:=(g9 vb _ _ _ rfl).trans (by kernel_rfl)
noncomputable def U6:List V->VH->Option (Option Nat × List V × VH):=y4 (vb.ctx cv j4) (vb.b.E2 83) (vb.A0 83) ⟨⟨[0,3],[],[]⟩,[(.exit 0,⟨[0],[],[]⟩),(.ret,⟨[2],[],[]⟩)]⟩ (y2 Tryd.f83 2)
theorem abY (v0 v1:V) (H:VH):U6 [v0,v1] H =
 (id (
 (w6 v0).bind fun x4 =>
 (a8 (.int .i64) .lss v1 x4).bind fun x5 =>
 l7 x5 (
 (a8 (.int .i64) .leq (strip v1) (.int .i64 40)).bind fun x8 =>
 j8 x8 (
 some (0,[(strip v0),(strip (strip v1))],H)) (
 some (1,[(strip v0)],H))) (
 some (1,[(strip v0)],H)):Option (Nat × List V × VH))).bind fun r11 =>
 B5 r11.1 [
 l8 2 r11.2.1 fun v12 =>
 (p8 (v12 0) (v12 1)).bind fun x15 =>
 (qc acH [(l4 r11.2.2 x15)]).bind fun x16 =>
 (I9 .not x16).bind fun x17 =>
 j8 x17 (
 some (some 1,[(.bool false)],r11.2.2)) (
 (a8 (.int .i64) .add (strip (v12 1)) (.int .i64 1)).bind fun x20 =>
 some (none,[(strip (v12 0)),x20],r11.2.2)),
 l8 1 r11.2.1 fun v22 =>
 some (some 0,[(v22 0)],r11.2.2)]:=by kernel_rfl
theorem ail (a0:V) (H:VH):cv abf [a0] H =
 (j4 U6 [a0,(.int .i64 0)] H).bind fun r23 =>
 B5 r23.1 [
 l8 1 r23.2.1 fun v24 =>
 (w6 (v24 0)).bind fun x26 =>
 (a8 (.int .i64) .geq x26 (.int .i64 1)).bind fun x27 =>
 l7 x27 (
 (w6 (strip (v24 0))).bind fun x30 =>
 (a8 (.int .i64) .leq x30 (.int .i64 40)).bind fun x31 =>
 some (x31,r23.2.2)) (
 some ((.bool false),r23.2.2)),
 l8 1 r23.2.1 fun v36 =>
 some ((v36 0),r23.2.2)]:=(g9 vb _ _ _ rfl).trans (by kernel_rfl)
noncomputable def aaP:List V->VH->Option (Option Nat × List V × VH):=y4 (vb.ctx cv j4) (vb.b.E2 86) (vb.A0 86) ⟨⟨[0,3],[],[]⟩,[(.exit 0,⟨[0],[],[]⟩),(.ret,⟨[2],[],[]⟩)]⟩ (y2 Tryd.f86 2)
theorem adG (v0 v1:V) (H:VH):aaP [v0,v1] H =
 (a8 (.int .i64) .lss v1 (.int .i64 19)).bind fun x3 =>
 j8 x3 (
 (p8 (.str [33,35,36,37,38,39,42,43,45,47,61,63,94,95,96,123,124,125,126]) (strip v1)).bind fun x6 =>
 (a8 (.int .u8) .eql v0 x6).bind fun x7 =>
 j8 x7 (
 some (some 1,[(.bool true)],H)) (
 (a8 (.int .i64) .add (strip (strip v1)) (.int .i64 1)).bind fun x10 =>
 some (none,[(strip v0),x10],H))) (
 some (some 0,[v0],H)):=by kernel_rfl
theorem alq (a0:V) (H:VH):cv acH [a0] H =
 (j4 aaP [a0,(.int .i64 0)] H).bind fun r12 =>
 B5 r12.1 [
 l8 1 r12.2.1 fun v13 =>
 (qc Y4 [(l4 r12.2.2 (v13 0))]).bind fun x15 =>
 some (x15,r12.2.2),
 l8 1 r12.2.1 fun v17 =>
 some ((v17 0),r12.2.2)]:=(g9 vb _ _ _ rfl).trans (by kernel_rfl)
theorem ajd (a0:V) (H:VH):cv Y4 [a0] H =
 (a8 (.int .u8) .geq a0 (.int .u8 97)).bind fun x2 =>
 l7 x2 (
 (a8 (.int .u8) .leq (strip a0) (.int .u8 122)).bind fun x5 =>
 l7 x5 (
 some ((.bool true),H)) (
 (a8 (.int .u8) .geq (strip (strip a0)) (.int .u8 65)).bind fun x13 =>
 l7 x13 (
 (a8 (.int .u8) .leq (strip (strip (strip a0))) (.int .u8 90)).bind fun x16 =>
 l7 x16 (
 some ((.bool true),H)) (
 (a8 (.int .u8) .geq (strip (strip (strip (strip a0)))) (.int .u8 48)).bind fun x23 =>
 l7 x23 (
 (a8 (.int .u8) .leq (strip (strip (strip (strip (strip a0))))) (.int .u8 57)).bind fun x26 =>
 some (x26,H)) (
 some ((.bool false),H)))) (
 (a8 (.int .u8) .geq (strip (strip (strip a0))) (.int .u8 48)).bind fun x37 =>
 l7 x37 (
 (a8 (.int .u8) .leq (strip (strip (strip (strip a0)))) (.int .u8 57)).bind fun x40 =>
 some (x40,H)) (
 some ((.bool false),H))))) (
 (a8 (.int .u8) .geq (strip a0) (.int .u8 65)).bind fun x50 =>
 l7 x50 (
 (a8 (.int .u8) .leq (strip (strip a0)) (.int .u8 90)).bind fun x53 =>
 l7 x53 (
 some ((.bool true),H)) (
 (a8 (.int .u8) .geq (strip (strip (strip a0))) (.int .u8 48)).bind fun x60 =>
 l7 x60 (
 (a8 (.int .u8) .leq (strip (strip (strip (strip a0)))) (.int .u8 57)).bind fun x63 =>
 some (x63,H)) (
 some ((.bool false),H)))) (
 (a8 (.int .u8) .geq (strip (strip a0)) (.int .u8 48)).bind fun x74 =>
 l7 x74 (
 (a8 (.int .u8) .leq (strip (strip (strip a0))) (.int .u8 57)).bind fun x77 =>
 some (x77,H)) (
 some ((.bool false),H)))):=(g9 vb _ _ _ rfl).trans (by kernel_rfl)
noncomputable def X0:List V->VH->Option (Option Nat × List V × VH):=y4 (vb.ctx cv j4) (vb.b.E2 78) (vb.A0 78) ⟨⟨[0,3,4,5,6],[],[]⟩,[(.exit 2,⟨[0,3,4],[],[]⟩),(.ret,⟨[2],[],[]⟩)]⟩ (y2 Tryd.f78 9)
noncomputable def J0:List V->VH->Option (Option Nat × List V × VH):=y4 (vb.ctx cv j4) (vb.b.E2 78) (vb.A0 78) ⟨⟨[0,3,4],[],[]⟩,[(.exit 0,⟨[0],[],[]⟩),(.ret,⟨[2],[],[]⟩)]⟩ (y2 Tryd.f78 3)
theorem acB (v0 v1 v2 v3 v4:V) (H:VH):X0 [v0,v1,v2,v3,v4] H =
 (w6 v3).bind fun x43 =>
 (a8 (.int .i64) .lss v4 x43).bind fun x44 =>
 j8 x44 (
 (id (
 (p8 (strip v3) (strip v4)).bind fun x47 =>
 (qc Y4 [(l4 H x47)]).bind fun x48 =>
 (I9 .not x48).bind fun x49 =>
 l7 x49 (
 (p8 (strip (strip v3)) (strip (strip v4))).bind fun x53 =>
 (a8 (.int .u8) .neq x53 (.int .u8 45)).bind fun x54 =>
 l7 x54 (
 some (0,[(.bool false)],H)) (
 (p8 (strip (strip (strip v3))) (strip (strip (strip v4)))).bind fun x61 =>
 (a8 (.int .u8) .geq x61 (.int .u8 65)).bind fun x62 =>
 l7 x62 (
 (p8 (strip (strip (strip (strip v3)))) (strip (strip (strip (strip v4))))).bind fun x66 =>
 (a8 (.int .u8) .leq x66 (.int .u8 90)).bind fun x67 =>
 j8 x67 (
 some (0,[(.bool false)],H)) (
 some (1,[v0,v1,v2,(strip (strip (strip (strip (strip v3))))),(strip (strip (strip (strip (strip v4)))))],H))) (
 some (1,[v0,v1,v2,(strip (strip (strip (strip v3)))),(strip (strip (strip (strip v4))))],H)))) (
 (p8 (strip (strip v3)) (strip (strip v4))).bind fun x77 =>
 (a8 (.int .u8) .geq x77 (.int .u8 65)).bind fun x78 =>
 l7 x78 (
 (p8 (strip (strip (strip v3))) (strip (strip (strip v4)))).bind fun x82 =>
 (a8 (.int .u8) .leq x82 (.int .u8 90)).bind fun x83 =>
 j8 x83 (
 some (0,[(.bool false)],H)) (
 some (1,[v0,v1,v2,(strip (strip (strip (strip v3)))),(strip (strip (strip (strip v4))))],H))) (
 some (1,[v0,v1,v2,(strip (strip (strip v3))),(strip (strip (strip v4)))],H))):Option (Nat × List V × VH))).bind fun r89 =>
 B5 r89.1 [
 l8 1 r89.2.1 fun v90 =>
 some (some 1,[(v90 0)],r89.2.2),
 l8 5 r89.2.1 fun v91 =>
 (a8 (.int .i64) .add (v91 4) (.int .i64 1)).bind fun x93 =>
 some (none,[(v91 0),(v91 1),(v91 2),(v91 3),x93],r89.2.2)]) (
 some (some 0,[v0,v1,v2],H)):=by kernel_rfl
theorem acA (v0 v1 v2:V) (H:VH):J0 [v0,v1,v2] H =
 (s8 (strip v1)).bind fun x7 =>
 (a8 (.int .i64) .lss v2 x7).bind fun x8 =>
 j8 x8 (
 (id (
 (s6 1 (strip v1) (strip v2)).bind fun x11 =>
 (y3 o7 false false 1 x11 H).bind fun r13 =>
 (id (
 (a8 .str .eql r13.1 (.str [])).bind fun x16 =>
 l7 x16 (
 some (0,[(.bool false)],r13.2)) (
 (p8 (strip r13.1) (.int .i64 0)).bind fun x23 =>
 (a8 (.int .u8) .eql x23 (.int .u8 45)).bind fun x24 =>
 l7 x24 (
 some (0,[(.bool false)],r13.2)) (
 (w6 (strip (strip (strip r13.1)))).bind fun x31 =>
 (a8 (.int .i64) .sub x31 (.int .i64 1)).bind fun x32 =>
 (p8 (strip (strip r13.1)) x32).bind fun x33 =>
 (a8 (.int .u8) .eql x33 (.int .u8 45)).bind fun x34 =>
 j8 x34 (
 some (0,[(.bool false)],r13.2)) (
 some (1,[v0,v1,(strip (strip v2)),(strip (strip (strip (strip r13.1))))],r13.2)))):Option (Nat × List V × VH))).bind fun r37 =>
 B5 r37.1 [
 l8 1 r37.2.1 fun v38 =>
 some (0,[(v38 0)],r37.2.2),
 l8 4 r37.2.1 fun v39 =>
 (j4 X0 [(v39 0),(v39 1),(v39 2),(v39 3),(.int .i64 0)] r37.2.2).bind fun r95 =>
 B5 r95.1 [
 l8 3 r95.2.1 fun v96 =>
 some (1,[(v96 0),(v96 1),(v96 2)],r95.2.2),
 l8 1 r95.2.1 fun v97 =>
 some (0,[(v97 0)],r95.2.2)]]:Option (Nat × List V × VH))).bind fun r98 =>
 B5 r98.1 [
 l8 1 r98.2.1 fun v99 =>
 some (some 1,[(v99 0)],r98.2.2),
 l8 3 r98.2.1 fun v100 =>
 (a8 (.int .i64) .add (v100 2) (.int .i64 1)).bind fun x102 =>
 some (none,[(v100 0),(v100 1),x102],r98.2.2)]) (
 some (some 0,[v0],H)):=by kernel_rfl
theorem aiM (a0:V) (H:VH):cv abK [a0] H =
 (pc K0 [(l4 H a0),(l4 H (.int .u8 46))]).bind fun x2 =>
 (j4 J0 [(strip a0),(strip x2),(.int .i64 0)] H).bind fun r104 =>
 B5 r104.1 [
 l8 1 r104.2.1 fun v105 =>
 (w6 (v105 0)).bind fun x107 =>
 (a8 (.int .i64) .leq x107 (.int .i64 40)).bind fun x108 =>
 some (x108,r104.2.2),
 l8 1 r104.2.1 fun v110 =>
 some ((v110 0),r104.2.2)]:=(g9 vb _ _ _ rfl).trans (by kernel_rfl)
noncomputable def aaV:List V->VH->Option (Option Nat × List V × VH):=y4 (vb.ctx cv j4) (vb.b.E2 29) (vb.A0 29) ⟨⟨[0,1,5],[],[]⟩,[(.exit 0,⟨[],[],[]⟩),(.ret,⟨[4],[],[]⟩)]⟩ (y2 Tryd.f29 2)
theorem adE (v0 v1 v2:V) (H:VH):aaV [v0,v1,v2] H =
 (s8 (strip v0)).bind fun x4 =>
 (a8 (.int .i64) .lss v2 x4).bind fun x5 =>
 j8 x5 (
 (s6 1 (strip v0) (strip v2)).bind fun x8 =>
 (y3 o7 false false 1 x8 H).bind fun r10 =>
 (a8 .str .eql r10.1 v1).bind fun x12 =>
 j8 x12 (
 some (some 1,[(.bool true)],r10.2)) (
 (a8 (.int .i64) .add (strip (strip v2)) (.int .i64 1)).bind fun x15 =>
 some (none,[v0,(strip v1),x15],r10.2))) (
 some (some 0,[],H)):=by kernel_rfl
theorem akN (a0 a1:V) (H:VH):cv aa9 [a0,a1] H =
 (j4 aaV [a0,a1,(.int .i64 0)] H).bind fun r17 =>
 B5 r17.1 [
 l8 0 r17.2.1 fun v18 =>
 some ((.bool false),r17.2.2),
 l8 1 r17.2.1 fun v20 =>
 some ((v20 0),r17.2.2)]:=(g9 vb _ _ _ rfl).trans (by kernel_rfl)
theorem aif (a0:V) (H:VH):cv P4 [a0] H =
 (qc O6 [(l4 H a0),(l4 H (.int .u8 64))]).bind fun x2 =>
 (B8 x2 0).bind fun x4 =>
 (B8 x2 1).bind fun x5 =>
 (B8 x2 2).bind fun x6 =>
 some ((strip x5),H):=(g9 vb _ _ _ rfl).trans (by kernel_rfl)
noncomputable def abq:List V->VH->Option (Option Nat × List V × VH):=y4 (vb.ctx cv j4) (vb.b.E2 15) (vb.A0 15) ⟨⟨[3,7,8,9],[],[]⟩,[(.exit 0,⟨[3],[],[]⟩)]⟩ (y2 Tryd.f15 3)
theorem adR (v0 v1 v2 v3:V) (H:VH):abq [v0,v1,v2,v3] H =
 (a8 (.int .i64) .lss v3 v2).bind fun x6 =>
 j8 x6 (
 (s6 3 v1 v3).bind fun x7 =>
 (y3 o7 false true 3 x7 H).bind fun r9 =>
 (C1 3 r9.1).bind fun c12 =>
 (pc aaI [(l4 r9.2 (.agg [(strip (c12.getD 0 .g8)),(strip (c12.getD 1 .g8)),(strip (c12.getD 2 .g8))]))]).bind fun x15 =>
 (C1 3 x15).bind fun c17 =>
 (aaE v0).bind fun s19 =>
 (F1 false 3 64 s19 (.sl true [[(c17.getD 0 .g8),(c17.getD 1 .g8),(c17.getD 2 .g8)]])).bind fun x18 =>
 (a8 (.int .i64) .add v3 (.int .i64 1)).bind fun x21 =>
 some (none,[x18,v1,v2,x21],r9.2)) (
 some (some 0,[v0],H)):=by kernel_rfl
theorem ae8 (a0:V) (H:VH):cv N0 [a0] H =
 (s8 (strip a0)).bind fun x4 =>
 (j4 abq [(.sl true []),(strip a0),x4,(.int .i64 0)] H).bind fun r23 =>
 B5 r23.1 [
 l8 1 r23.2.1 fun v24 =>
 some ((v24 0),r23.2.2)]:=(g9 vb _ _ _ rfl).trans (by kernel_rfl)
theorem agI (a0:V) (H:VH):cv aaI [a0] H =
 (C1 3 a0).bind fun c1 =>
 (F1 false 1 16 [] (c1.getD 1 .g8)).bind fun x6 =>
 (w5 x6).bind fun y9 =>
 (F1 false 1 16 [] (c1.getD 2 .g8)).bind fun x13 =>
 (w5 x13).bind fun y16 =>
 some ((.agg [(c1.getD 0 .g8),y9,y16]),H):=(g9 vb _ _ _ rfl).trans (by kernel_rfl)
noncomputable def adL:List V->VH->Option (Option Nat × List V × VH):=y4 (vb.ctx cv j4) (vb.b.E2 7) (vb.A0 7) ⟨⟨[4,14,15,16],[(1,(1,0))],[(1,3)]⟩,[(.exit 0,⟨[4],[],[]⟩)]⟩ (y2 Tryd.f7 5)
theorem af1 (v0 v1 v2 v3 v4 v5 v6:V) (H:VH):adL [v0,v1,v2,v3,v4,v5,v6] H =
 (a8 (.int .i64) .lss v3 v2).bind fun x18 =>
 j8 x18 (
 (s6 1 v1 v3).bind fun x19 =>
 (y3 o7 false false 1 x19 H).bind fun r21 =>
 (w5 r21.1).bind fun y24 =>
 (M6 (.ptr r21.2.length 0) [y24] (r21.2++[[(.str [])]])).bind fun H25 =>
 (qco A4 H25 [(strip v0),(.fn E7 [(.ptr r21.2.length 0)])]).bind fun x28 =>
 (a8 (.int .i64) .lss x28 (.int .i64 0)).bind fun x31 =>
 j8 x31 (
 (y3 o7 false false 1 (.ptr r21.2.length 0) H25).bind fun r36 =>
 (w5 r36.1).bind fun y38 =>
 (pco D8 r36.2 [(strip v6)]).bind fun x41 =>
 (w5 (strip v4)).bind fun y43 =>
 (w5 x41).bind fun y44 =>
 (ads true false 3 64 v0 (.sl true [[y43,(.sl true [[y38]]),y44]]) r36.2).bind fun r47 =>
 (a8 (.int .i64) .add v3 (.int .i64 1)).bind fun x49 =>
 some (none,[r47.1,v1,v2,x49,v4,v5,v6],r47.2)) (
 (s6 3 (strip v0) (strip (strip x28))).bind fun x55 =>
 (K4 x55 1).bind fun x56 =>
 (y3 o7 true false 1 x56 H25).bind fun r58 =>
 (y3 o7 false false 1 (.ptr r21.2.length 0) r58.2).bind fun r60 =>
 (w5 r60.1).bind fun y62 =>
 (ads true false 1 16 r58.1 (.sl true [[y62]]) r60.2).bind fun r64 =>
 (s6 3 (strip v0) (strip x28)).bind fun x65 =>
 (K4 x65 1).bind fun x66 =>
 (w5 r64.1).bind fun y68 =>
 (M6 x66 [y68] r64.2).bind fun H69 =>
 (a8 (.int .i64) .add v3 (.int .i64 1)).bind fun x70 =>
 some (none,[v0,v1,v2,x70,v4,v5,v6],H69))) (
 some (some 0,[v0],H)):=by kernel_rfl
theorem aia (a0:V) (H:VH):cv H6 [a0] H =
 (C1 3 a0).bind fun c1 =>
 (qco abe H [(.agg [(strip (c1.getD 0 .g8)),(strip (c1.getD 1 .g8)),(strip (c1.getD 2 .g8))])]).bind fun x5 =>
 (I9 .not x5).bind fun x6 =>
 j8 x6 (
 some ((.u6 [(.sl true []),(.bool false)]),H)) (
 (cv aaM [(.agg [(c1.getD 0 .g8),(c1.getD 1 .g8),(c1.getD 2 .g8)])] H).bind fun r13 =>
 (C1 3 r13.1).bind fun c15 =>
 (c15[1]?).bind fun x14 =>
 (s8 (strip x14)).bind fun x16 =>
 (j4 adL [(.sl true []),(strip x14),x16,(.int .i64 0),(strip (c1.getD 0 .g8)),(strip (c1.getD 1 .g8)),(strip (c1.getD 2 .g8))] r13.2).bind fun r72 =>
 B5 r72.1 [
 l8 1 r72.2.1 fun v73 =>
 some ((.u6 [(v73 0),(.bool true)]),r72.2.2)]):=(g9 vb _ _ _ rfl).trans (by kernel_rfl)
theorem ah1 (a0:V) (H:VH):cv abe [a0] H =
 (C1 3 a0).bind fun c1 =>
 (qc aaw [(l4 H (.agg [(strip (c1.getD 0 .g8)),(strip (c1.getD 1 .g8)),(strip (c1.getD 2 .g8))])),(l4 H (.int .i64 1)),(l4 H (.int .i64 30))]).bind fun x4 =>
 some (x4,H):=(g9 vb _ _ _ rfl).trans (by kernel_rfl)
theorem agQ (a0 a1 a2:V) (H:VH):cv aaw [a0,a1,a2] H =
 (C1 3 a0).bind fun c1 =>
 (qc acK [(l4 H (strip (c1.getD 0 .g8)))]).bind fun x5 =>
 l7 x5 (
 (s8 (strip (c1.getD 1 .g8))).bind fun x9 =>
 (a8 (.int .i64) .geq x9 a1).bind fun x11 =>
 l7 x11 (
 (s8 (strip (c1.getD 1 .g8))).bind fun x16 =>
 (a8 (.int .i64) .leq x16 (.int .i64 10)).bind fun x17 =>
 l7 x17 (
 (qc u5 [(l4 H (strip (c1.getD 1 .g8))),(l4 H (.fn Q0 []))]).bind fun x22 =>
 (I9 .not x22).bind fun x23 =>
 l7 x23 (
 (qc abN [(l4 H (strip (c1.getD 2 .g8))),(l4 H a2)]).bind fun x29 =>
 some (x29,H)) (
 some ((.bool false),H))) (
 some ((.bool false),H))) (
 some ((.bool false),H))) (
 some ((.bool false),H)):=(g9 vb _ _ _ rfl).trans (by kernel_rfl)
theorem ak0 (a0:V) (H:VH):cv acK [a0] H =
 (a8 .str .eql a0 (.str [])).bind fun x2 =>
 l7 x2 (
 some ((.bool true),H)) (
 (qc aa5 [(l4 H (strip a0))]).bind fun x7 =>
 some (x7,H)):=(g9 vb _ _ _ rfl).trans (by kernel_rfl)
theorem ak3 (a0:V) (H:VH):cv aa5 [a0] H =
 (qc aaQ [(l4 H a0),(l4 H (.str [64]))]).bind fun x2 =>
 (B8 x2 0).bind fun x4 =>
 (B8 x2 1).bind fun x5 =>
 (B8 x2 2).bind fun x6 =>
 l7 (strip x6) (
 (qc acs [(l4 H (strip x4))]).bind fun x13 =>
 l7 x13 (
 (qc abL [(l4 H (strip x5))]).bind fun x17 =>
 some (x17,H)) (
 some ((.bool false),H))) (
 some ((.bool false),H)):=(g9 vb _ _ _ rfl).trans (by kernel_rfl)
theorem ald (a0 a1:V) (H:VH):cv aaQ [a0,a1] H =
 (qc N3 [(l4 H a0),(l4 H a1)]).bind fun x5 =>
 (B8 x5 0).bind fun x6 =>
 (B8 x5 1).bind fun x7 =>
 (B8 x5 2).bind fun x8 =>
 some ((.u6 [(strip x6),(strip x7),(strip x8)]),H):=(g9 vb _ _ _ rfl).trans (by kernel_rfl)
theorem adb (a0 a1:V) (H:VH):cv N3 [a0,a1] H =
 (qc F8 [(l4 H a0),(l4 H a1)]).bind fun x5 =>
 (a8 (.int .i64) .geq x5 (.int .i64 0)).bind fun x8 =>
 j8 x8 (
 (E8 (strip a0) none (some (strip x5))).bind fun x11 =>
 (w6 (strip a1)).bind fun x15 =>
 (a8 (.int .i64) .add (strip (strip x5)) x15).bind fun x16 =>
 (E8 (strip (strip a0)) (some x16) none).bind fun x17 =>
 some ((.u6 [x11,x17,(.bool true)]),H)) (
 some ((.u6 [(strip a0),(.str []),(.bool false)]),H)):=(g9 vb _ _ _ rfl).trans (by kernel_rfl)
noncomputable def ab6:List V->VH->Option (Option Nat × List V × VH):=y4 (vb.ctx cv j4) (vb.b.E2 50) (vb.A0 50) ⟨⟨[0,1,5,6,7,8,9,10],[],[]⟩,[(.exit 1,⟨[],[],[]⟩),(.ret,⟨[4],[],[]⟩)]⟩ (y2 Tryd.f50 15)
theorem acu (a0 a1:V) (H:VH):cv F8 [a0,a1] H =
 (w6 a1).bind fun x2 =>
 (id (
 (a8 (.int .i64) .eql x2 (.int .i64 0)).bind fun x5 =>
 l7 x5 (
 some (0,[(.int .i64 0)],H)) (
 (a8 .str .eql (strip a1) a0).bind fun x12 =>
 j8 x12 (
 some (0,[(.int .i64 0)],H)) (
 (a8 (.int .i64) .eql (strip x2) (.int .i64 1)).bind fun x17 =>
 j8 x17 (
 (p8 (strip (strip a1)) (.int .i64 0)).bind fun x21 =>
 (qc I2 [(l4 H (strip a0)),(l4 H x21)]).bind fun x22 =>
 some (0,[x22],H)) (
 (w6 (strip a0)).bind fun x26 =>
 (a8 (.int .i64) .geq (strip (strip x2)) x26).bind fun x27 =>
 j8 x27 (
 some (0,[(.int .i64 (-1))],H)) (
 (y3 o7 false false 1 (.gp 0 0) H).bind fun r32 =>
 (a8 (.int .i64) .leq (strip (strip (strip x2))) r32.1).bind fun x33 =>
 l7 x33 (
 (w6 (strip (strip a0))).bind fun x36 =>
 (a8 (.int .i64) .leq x36 (.int .i64 64)).bind fun x37 =>
 j8 x37 (
 (aiS 2 [(strip (strip (strip a0))),(strip (strip a1))] fun x42 =>
  some (0,[x42],r32.2))) (
 some (1,[(strip (strip (strip a0))),(strip (strip a1)),(strip (strip (strip (strip x2))))],r32.2))) (
 some (1,[(strip (strip a0)),(strip (strip a1)),(strip (strip (strip (strip x2))))],r32.2)))))):Option (Nat × List V × VH))).bind fun r46 =>
 B5 r46.1 [
 l8 1 r46.2.1 fun v47 =>
 some ((v47 0),r46.2.2),
 l8 3 r46.2.1 fun v48 =>
 (p8 (v48 1) (.int .i64 0)).bind fun x50 =>
 (p8 (strip (v48 1)) (.int .i64 1)).bind fun x53 =>
 (w6 (v48 0)).bind fun x57 =>
 (a8 (.int .i64) .sub x57 (v48 2)).bind fun x59 =>
 (a8 (.int .i64) .add x59 (.int .i64 1)).bind fun x60 =>
 (j4 ab6 [(strip (v48 0)),(strip (strip (v48 1))),(strip (v48 2)),x50,x53,(.int .i64 0),x60,(.int .i64 0)] r46.2.2).bind fun r208 =>
 B5 r208.1 [
 l8 0 r208.2.1 fun v209 =>
 some ((.int .i64 (-1)),r208.2.2),
 l8 1 r208.2.1 fun v211 =>
 some ((v211 0),r208.2.2)]]:=(g9 vb _ _ _ rfl).trans (by kernel_rfl)
theorem abo (a0 a1:V) (H:VH):cv I2 [a0,a1] H =
 (aiS 0 [a0,a1] fun x3 =>
  some (x3,H)):=(g9 vb _ _ _ rfl).trans (by kernel_rfl)
theorem ajN (a0:V) (H:VH):cv acs [a0] H =
 (w6 a0).bind fun x2 =>
 (a8 (.int .i64) .leq x2 (.int .i64 30)).bind fun x3 =>
 l7 x3 (
 (pc R6 [(l4 H (strip a0)),(l4 H (.str [46]))]).bind fun x6 =>
 (qc u5 [(l4 H x6),(l4 H (.fn U9 []))]).bind fun x7 =>
 (I9 .not x7).bind fun x8 =>
 some (x8,H)) (
 some ((.bool false),H)):=(g9 vb _ _ _ rfl).trans (by kernel_rfl)
theorem ajw (a0 a1:V) (H:VH):cv R6 [a0,a1] H =
 (pcg R9 H [a0,a1,(.int .i64 0),(.int .i64 (-1))]).bind fun r4 =>
 some (r4.1,r4.2):=(g9 vb _ _ _ rfl).trans (by kernel_rfl)
noncomputable def P9:List V->VH->Option (Option Nat × List V × VH):=y4 (vb.ctx cv j4) (vb.b.E2 63) (vb.A0 63) ⟨⟨[0,1,2,3,9,10],[],[]⟩,[(.exit 0,⟨[0,9,10],[],[]⟩)]⟩ (y2 Tryd.f63 11)
theorem aba (v0 v1 v2 v3 v4 v5:V) (H:VH):P9 [v0,v1,v2,v3,v4,v5] H =
 (a8 (.int .i64) .lss v5 v3).bind fun x34 =>
 j8 x34 (
 (qc abP [(l4 H v0),(l4 H v1)]).bind fun x37 =>
 (a8 (.int .i64) .lss x37 (.int .i64 0)).bind fun x40 =>
 j8 x40 (
 some (some 0,[(strip v0),v4,(strip v5)],H)) (
 (a8 (.int .i64) .add (strip x37) v2).bind fun x46 =>
 (E8 (strip v0) none (some x46)).bind fun x47 =>
 (s6 1 (strip v4) (strip v5)).bind fun x48 =>
 (w5 x47).bind fun y50 =>
 (M6 x48 [y50] H).bind fun H51 =>
 (w6 (strip v1)).bind fun x55 =>
 (a8 (.int .i64) .add (strip (strip x37)) x55).bind fun x56 =>
 (E8 (strip (strip v0)) (some x56) none).bind fun x57 =>
 (a8 (.int .i64) .add (strip (strip v5)) (.int .i64 1)).bind fun x60 =>
 some (none,[x57,(strip (strip v1)),(strip v2),(strip v3),v4,x60],H51))) (
 some (some 0,[v0,v4,(strip v5)],H)):=by kernel_rfl
theorem agF (a0 a1 a2 a3:V) (H:VH):cv R9 [a0,a1,a2,a3] H =
 (a8 (.int .i64) .eql a3 (.int .i64 0)).bind fun x2 =>
 j8 x2 (
 some ((.sl true []),H)) (
 (a8 .str .eql a1 (.str [])).bind fun x5 =>
 j8 x5 (
 (pc ahk [(l4 H a0),(l4 H (strip a3))]).bind fun x8 =>
 some (x8,H)) (
 (id (
 (a8 (.int .i64) .lss (strip a3) (.int .i64 0)).bind fun x11 =>
 j8 x11 (
 (qc abD [(l4 H a0),(l4 H (strip a1))]).bind fun x14 =>
 (a8 (.int .i64) .add x14 (.int .i64 1)).bind fun x15 =>
 some (0,[(strip a0),(strip (strip a1)),a2,x15],H)) (
 some (0,[a0,(strip a1),a2,(strip (strip a3))],H)):Option (Nat × List V × VH))).bind fun r17 =>
 B5 r17.1 [
 l8 4 r17.2.1 fun v18 =>
 (w6 (v18 0)).bind fun x21 =>
 (a8 (.int .i64) .add x21 (.int .i64 1)).bind fun x22 =>
 (ahJ (v18 3) x22).bind fun x23 =>
 (afi 16 x23 x23).bind fun x26 =>
 (a8 (.int .i64) .sub (strip x23) (.int .i64 1)).bind fun x29 =>
 (j4 P9 [(strip (v18 0)),(v18 1),(v18 2),x29,(.m8 r17.2.2.length 0 x26.1 1),(.int .i64 0)] (r17.2.2++[W3 x26.2 [(.str [])]])).bind fun r62 =>
 B5 r62.1 [
 l8 3 r62.2.1 fun v63 =>
 (s6 1 (strip (v63 1)) (v63 2)).bind fun x67 =>
 (w5 (v63 0)).bind fun y69 =>
 (M6 x67 [y69] r62.2.2).bind fun H70 =>
 (a8 (.int .i64) .add (strip (v63 2)) (.int .i64 1)).bind fun x73 =>
 (acT 1 (strip (v63 1)) none (some x73)).bind fun x74 =>
 some (x74,H70)]])):=(g9 vb _ _ _ rfl).trans (by kernel_rfl)
noncomputable def ai9:List V->VH->Option (Option Nat × List V × VH):=y4 (vb.ctx cv j4) (vb.b.E2 73) (vb.A0 73) ⟨⟨[0,1,5],[],[]⟩,[(.ret,⟨[4],[],[]⟩)]⟩ (y2 Tryd.f73 6)
theorem ajk (a0 a1:V) (H:VH):cv abD [a0,a1] H =
 (w6 a1).bind fun x2 =>
 (a8 (.int .i64) .eql x2 (.int .i64 0)).bind fun x3 =>
 j8 x3 (
 (qc abn [(l4 H a0)]).bind fun x5 =>
 (a8 (.int .i64) .add x5 (.int .i64 1)).bind fun x6 =>
 some (x6,H)) (
 (w6 (strip a1)).bind fun x9 =>
 (a8 (.int .i64) .eql x9 (.int .i64 1)).bind fun x10 =>
 j8 x10 (
 (p8 (strip (strip a1)) (.int .i64 0)).bind fun x13 =>
 (aiS 1 [a0,x13] fun x14 =>
  some (x14,H))) (
 (j4 ai9 [a0,(strip (strip a1)),(.int .i64 0)] H).bind fun r35 =>
 B5 r35.1 [
 l8 1 r35.2.1 fun v36 =>
 some ((v36 0),r35.2.2)])):=(g9 vb _ _ _ rfl).trans (by kernel_rfl)
theorem ajv (a0 a1:V) (H:VH):cv abP [a0,a1] H =
 (qc F8 [(l4 H a0),(l4 H a1)]).bind fun x3 =>
 some (x3,H):=(g9 vb _ _ _ rfl).trans (by kernel_rfl)
theorem Z8 (a0 a1:V) (H:VH):cv u5 [a0,a1] H =
 (qc G4 [(l4 H (strip a0)),(l4 H a1)]).bind fun x3 =>
 (a8 (.int .i64) .geq x3 (.int .i64 0)).bind fun x4 =>
 some (x4,H):=(g9 vb _ _ _ rfl).trans (by kernel_rfl)
noncomputable def B7:List V->VH->Option (Option Nat × List V × VH):=y4 (vb.ctx cv j4) (vb.b.E2 45) (vb.A0 45) ⟨⟨[0,1,7,8],[],[]⟩,[(.exit 0,⟨[],[],[]⟩),(.ret,⟨[4],[],[]⟩)]⟩ (y2 Tryd.f45 2)
theorem L3 (v0 v1 v2 v3:V) (H:VH):B7 [v0,v1,v2,v3] H =
 (a8 (.int .i64) .lss v3 v2).bind fun x4 =>
 j8 x4 (
 (s6 1 (strip v0) v3).bind fun x10 =>
 (y3 o7 false false 1 x10 H).bind fun r12 =>
 (aec v1).bind fun p14 =>
 (qc p14.1 ((([r12.1]:List V)++p14.2).map (l4 r12.2))).bind fun x13 =>
 j8 x13 (
 some (some 1,[(strip v3)],r12.2)) (
 (a8 (.int .i64) .add (strip v3) (.int .i64 1)).bind fun x17 =>
 some (none,[v0,(strip v1),v2,x17],r12.2))) (
 some (some 0,[],H)):=by kernel_rfl
theorem aaK (a0 a1:V) (H:VH):cv G4 [a0,a1] H =
 (s8 (strip a0)).bind fun x2 =>
 (j4 B7 [a0,a1,x2,(.int .i64 0)] H).bind fun r19 =>
 B5 r19.1 [
 l8 0 r19.2.1 fun v20 =>
 some ((.int .i64 (-1)),r19.2.2),
 l8 1 r19.2.1 fun v22 =>
 some ((v22 0),r19.2.2)]:=(g9 vb _ _ _ rfl).trans (by kernel_rfl)
theorem aib (a0:V) (H:VH):cv U9 [a0] H =
 (qc abg [(l4 H a0)]).bind fun x2 =>
 (I9 .not x2).bind fun x3 =>
 some (x3,H):=(g9 vb _ _ _ rfl).trans (by kernel_rfl)
theorem ah9 (a0:V) (H:VH):cv abg [a0] H =
 (w6 a0).bind fun x2 =>
 (a8 (.int .i64) .geq x2 (.int .i64 1)).bind fun x3 =>
 l7 x3 (
 (w6 (strip a0)).bind fun x6 =>
 (a8 (.int .i64) .leq x6 (.int .i64 40)).bind fun x7 =>
 l7 x7 (
 (qc Y2 [(l4 H (strip (strip a0))),(l4 H (.fn S9 []))]).bind fun x11 =>
 some (x11,H)) (
 some ((.bool false),H))) (
 some ((.bool false),H)):=(g9 vb _ _ _ rfl).trans (by kernel_rfl)
noncomputable def X5:List V->VH->Option (Option Nat × List V × VH):=y4 (vb.ctx cv j4) (vb.b.E2 64) (vb.A0 64) ⟨⟨[0,1,7,8],[],[]⟩,[(.exit 0,⟨[],[],[]⟩),(.ret,⟨[4],[],[]⟩)]⟩ (y2 Tryd.f64 2)
theorem acz (v0 v1 v2 v3:V) (H:VH):X5 [v0,v1,v2,v3] H =
 (a8 (.int .i64) .lss v3 v2).bind fun x4 =>
 j8 x4 (
 (p8 v0 v3).bind fun x10 =>
 (aec v1).bind fun p12 =>
 (qc p12.1 ((([x10]:List V)++p12.2).map (l4 H))).bind fun x11 =>
 (I9 .not x11).bind fun x13 =>
 j8 x13 (
 some (some 1,[(.bool false)],H)) (
 (a8 (.int .i64) .add (strip v3) (.int .i64 1)).bind fun x15 =>
 some (none,[(strip v0),(strip v1),v2,x15],H))) (
 some (some 0,[],H)):=by kernel_rfl
theorem ai2 (a0 a1:V) (H:VH):cv Y2 [a0,a1] H =
 (w6 a0).bind fun x2 =>
 (j4 X5 [(strip a0),a1,x2,(.int .i64 0)] H).bind fun r17 =>
 B5 r17.1 [
 l8 0 r17.2.1 fun v18 =>
 some ((.bool true),r17.2.2),
 l8 1 r17.2.1 fun v20 =>
 some ((v20 0),r17.2.2)]:=(g9 vb _ _ _ rfl).trans (by kernel_rfl)
theorem ag1 (a0:V) (H:VH):cv S9 [a0] H =
 (qc abS [(l4 H a0)]).bind fun x2 =>
 l7 x2 (
 some ((.bool true),H)) (
 (qc T1 [(l4 H (strip a0))]).bind fun x27 =>
 l7 x27 (
 some ((.bool true),H)) (
 (a8 (.int .u8) .eql (strip (strip a0)) (.int .u8 33)).bind fun x51 =>
 l7 x51 (
 some ((.bool true),H)) (
 (a8 (.int .u8) .geq (strip (strip (strip a0))) (.int .u8 35)).bind fun x73 =>
 l7 x73 (
 (a8 (.int .u8) .leq (strip (strip (strip (strip a0)))) (.int .u8 39)).bind fun x76 =>
 l7 x76 (
 some ((.bool true),H)) (
 (a8 (.int .u8) .eql (strip (strip (strip (strip (strip a0))))) (.int .u8 42)).bind fun x97 =>
 l7 x97 (
 some ((.bool true),H)) (
 (a8 (.int .u8) .eql (strip (strip (strip (strip (strip (strip a0)))))) (.int .u8 43)).bind fun x115 =>
 l7 x115 (
 some ((.bool true),H)) (
 (a8 (.int .u8) .eql (strip (strip (strip (strip (strip (strip (strip a0))))))) (.int .u8 45)).bind fun x131 =>
 l7 x131 (
 some ((.bool true),H)) (
 (a8 (.int .u8) .eql (strip (strip (strip (strip (strip (strip (strip (strip a0)))))))) (.int .u8 47)).bind fun x145 =>
 l7 x145 (
 some ((.bool true),H)) (
 (a8 (.int .u8) .eql (strip (strip (strip (strip (strip (strip (strip (strip (strip a0))))))))) (.int .u8 61)).bind fun x157 =>
 l7 x157 (
 some ((.bool true),H)) (
 (a8 (.int .u8) .eql (strip (strip (strip (strip (strip (strip (strip (strip (strip (strip a0)))))))))) (.int .u8 63)).bind fun x167 =>
 l7 x167 (
 some ((.bool true),H)) (
 (a8 (.int .u8) .geq (strip (strip (strip (strip (strip (strip (strip (strip (strip (strip (strip a0))))))))))) (.int .u8 94)).bind fun x175 =>
 l7 x175 (
 (a8 (.int .u8) .leq (strip (strip (strip (strip (strip (strip (strip (strip (strip (strip (strip (strip a0)))))))))))) (.int .u8 96)).bind fun x178 =>
 l7 x178 (
 some ((.bool true),H)) (
 (a8 (.int .u8) .geq (strip (strip (strip (strip (strip (strip (strip (strip (strip (strip (strip (strip (strip a0))))))))))))) (.int .u8 123)).bind fun x185 =>
 l7 x185 (
 (a8 (.int .u8) .leq (strip (strip (strip (strip (strip (strip (strip (strip (strip (strip (strip (strip (strip (strip a0)))))))))))))) (.int .u8 126)).bind fun x188 =>
 some (x188,H)) (
 some ((.bool false),H)))) (
 (a8 (.int .u8) .geq (strip (strip (strip (strip (strip (strip (strip (strip (strip (strip (strip (strip a0)))))))))))) (.int .u8 123)).bind fun x199 =>
 l7 x199 (
 (a8 (.int .u8) .leq (strip (strip (strip (strip (strip (strip (strip (strip (strip (strip (strip (strip (strip a0))))))))))))) (.int .u8 126)).bind fun x202 =>
 some (x202,H)) (
 some ((.bool false),H))))))))))) (
 (a8 (.int .u8) .eql (strip (strip (strip (strip a0)))) (.int .u8 42)).bind fun x213 =>
 l7 x213 (
 some ((.bool true),H)) (
 (a8 (.int .u8) .eql (strip (strip (strip (strip (strip a0))))) (.int .u8 43)).bind fun x231 =>
 l7 x231 (
 some ((.bool true),H)) (
 (a8 (.int .u8) .eql (strip (strip (strip (strip (strip (strip a0)))))) (.int .u8 45)).bind fun x247 =>
 l7 x247 (
 some ((.bool true),H)) (
 (a8 (.int .u8) .eql (strip (strip (strip (strip (strip (strip (strip a0))))))) (.int .u8 47)).bind fun x261 =>
 l7 x261 (
 some ((.bool true),H)) (
 (a8 (.int .u8) .eql (strip (strip (strip (strip (strip (strip (strip (strip a0)))))))) (.int .u8 61)).bind fun x273 =>
 l7 x273 (
 some ((.bool true),H)) (
 (a8 (.int .u8) .eql (strip (strip (strip (strip (strip (strip (strip (strip (strip a0))))))))) (.int .u8 63)).bind fun x283 =>
 l7 x283 (
 some ((.bool true),H)) (
 (a8 (.int .u8) .geq (strip (strip (strip (strip (strip (strip (strip (strip (strip (strip a0)))))))))) (.int .u8 94)).bind fun x291 =>
 l7 x291 (
 (a8 (.int .u8) .leq (strip (strip (strip (strip (strip (strip (strip (strip (strip (strip (strip a0))))))))))) (.int .u8 96)).bind fun x294 =>
 l7 x294 (
 some ((.bool true),H)) (
 (a8 (.int .u8) .geq (strip (strip (strip (strip (strip (strip (strip (strip (strip (strip (strip (strip a0)))))))))))) (.int .u8 123)).bind fun x301 =>
 l7 x301 (
 (a8 (.int .u8) .leq (strip (strip (strip (strip (strip (strip (strip (strip (strip (strip (strip (strip (strip a0))))))))))))) (.int .u8 126)).bind fun x304 =>
 some (x304,H)) (
 some ((.bool false),H)))) (
 (a8 (.int .u8) .geq (strip (strip (strip (strip (strip (strip (strip (strip (strip (strip (strip a0))))))))))) (.int .u8 123)).bind fun x315 =>
 l7 x315 (
 (a8 (.int .u8) .leq (strip (strip (strip (strip (strip (strip (strip (strip (strip (strip (strip (strip a0)))))))))))) (.int .u8 126)).bind fun x318 =>
 some (x318,H)) (
 some ((.bool false),H))))))))))))):=(g9 vb _ _ _ rfl).trans (by kernel_rfl)
theorem aiF (a0:V) (H:VH):cv abS [a0] H =
 (a8 (.int .u8) .geq a0 (.int .u8 97)).bind fun x2 =>
 l7 x2 (
 (a8 (.int .u8) .leq (strip a0) (.int .u8 122)).bind fun x5 =>
 l7 x5 (
 some ((.bool true),H)) (
 (a8 (.int .u8) .geq (strip (strip a0)) (.int .u8 65)).bind fun x11 =>
 l7 x11 (
 (a8 (.int .u8) .leq (strip (strip (strip a0))) (.int .u8 90)).bind fun x14 =>
 some (x14,H)) (
 some ((.bool false),H)))) (
 (a8 (.int .u8) .geq (strip a0) (.int .u8 65)).bind fun x24 =>
 l7 x24 (
 (a8 (.int .u8) .leq (strip (strip a0)) (.int .u8 90)).bind fun x27 =>
 some (x27,H)) (
 some ((.bool false),H))):=(g9 vb _ _ _ rfl).trans (by kernel_rfl)
theorem akb (a0:V) (H:VH):cv T1 [a0] H =
 (a8 (.int .u8) .geq a0 (.int .u8 48)).bind fun x2 =>
 l7 x2 (
 (a8 (.int .u8) .leq (strip a0) (.int .u8 57)).bind fun x5 =>
 some (x5,H)) (
 some ((.bool false),H)):=(g9 vb _ _ _ rfl).trans (by kernel_rfl)
theorem ajs (a0:V) (H:VH):cv abL [a0] H =
 (w6 a0).bind fun x2 =>
 (a8 (.int .i64) .leq x2 (.int .i64 40)).bind fun x3 =>
 l7 x3 (
 (pc R6 [(l4 H (strip a0)),(l4 H (.str [46]))]).bind fun x6 =>
 (qc u5 [(l4 H x6),(l4 H (.fn S7 []))]).bind fun x7 =>
 (I9 .not x7).bind fun x8 =>
 some (x8,H)) (
 some ((.bool false),H)):=(g9 vb _ _ _ rfl).trans (by kernel_rfl)
theorem ahc (a0:V) (H:VH):cv S7 [a0] H =
 (qc aca [(l4 H a0)]).bind fun x2 =>
 (I9 .not x2).bind fun x3 =>
 some (x3,H):=(g9 vb _ _ _ rfl).trans (by kernel_rfl)
theorem ake (a0:V) (H:VH):cv aca [a0] H =
 (a8 .str .neq a0 (.str [])).bind fun x2 =>
 l7 x2 (
 (p8 (strip a0) (.int .i64 0)).bind fun x5 =>
 (a8 (.int .u8) .neq x5 (.int .u8 45)).bind fun x6 =>
 l7 x6 (
 (w6 (strip (strip (strip a0)))).bind fun x11 =>
 (a8 (.int .i64) .sub x11 (.int .i64 1)).bind fun x12 =>
 (p8 (strip (strip a0)) x12).bind fun x13 =>
 (a8 (.int .u8) .neq x13 (.int .u8 45)).bind fun x14 =>
 l7 x14 (
 (qc Y2 [(l4 H (strip (strip (strip (strip a0))))),(l4 H (.fn V0 []))]).bind fun x18 =>
 some (x18,H)) (
 some ((.bool false),H))) (
 some ((.bool false),H))) (
 some ((.bool false),H)):=(g9 vb _ _ _ rfl).trans (by kernel_rfl)
theorem ah5 (a0:V) (H:VH):cv V0 [a0] H =
 (a8 (.int .u8) .geq a0 (.int .u8 97)).bind fun x2 =>
 l7 x2 (
 (a8 (.int .u8) .leq (strip a0) (.int .u8 122)).bind fun x5 =>
 l7 x5 (
 some ((.bool true),H)) (
 (qc T1 [(l4 H (strip (strip a0)))]).bind fun x13 =>
 l7 x13 (
 some ((.bool true),H)) (
 (a8 (.int .u8) .eql (strip (strip (strip a0))) (.int .u8 45)).bind fun x19 =>
 some (x19,H)))) (
 (qc T1 [(l4 H (strip a0))]).bind fun x25 =>
 l7 x25 (
 some ((.bool true),H)) (
 (a8 (.int .u8) .eql (strip (strip a0)) (.int .u8 45)).bind fun x31 =>
 some (x31,H))):=(g9 vb _ _ _ rfl).trans (by kernel_rfl)
theorem af3 (a0:V) (H:VH):cv Q0 [a0] H =
 (qc aa5 [(l4 H a0)]).bind fun x2 =>
 (I9 .not x2).bind fun x3 =>
 some (x3,H):=(g9 vb _ _ _ rfl).trans (by kernel_rfl)
theorem ai1 (a0 a1:V) (H:VH):cv abN [a0,a1] H =
 (s8 (strip a0)).bind fun x2 =>
 (a8 (.int .i64) .leq x2 a1).bind fun x4 =>
 l7 x4 (
 (qc u5 [(l4 H (strip a0)),(l4 H (.fn T2 []))]).bind fun x7 =>
 (I9 .not x7).bind fun x8 =>
 some (x8,H)) (
 some ((.bool false),H)):=(g9 vb _ _ _ rfl).trans (by kernel_rfl)
theorem ahj (a0:V) (H:VH):cv T2 [a0] H =
 (qc abh [(l4 H a0)]).bind fun x2 =>
 (I9 .not x2).bind fun x3 =>
 some (x3,H):=(g9 vb _ _ _ rfl).trans (by kernel_rfl)
noncomputable def V4:List V->VH->Option (Option Nat × List V × VH):=y4 (vb.ctx cv j4) (vb.b.E2 49) (vb.A0 49) ⟨⟨[0,5,6],[],[]⟩,[(.exit 0,⟨[0],[],[]⟩),(.ret,⟨[2],[],[]⟩)]⟩ (y2 Tryd.f49 2)
theorem acn (v0 v1 v2:V) (H:VH):V4 [v0,v1,v2] H =
 (a8 (.int .i64) .lss v2 v1).bind fun x4 =>
 j8 x4 (
 (p8 v0 v2).bind fun x9 =>
 (a8 (.int .u8) .lss x9 (.int .u8 32)).bind fun x10 =>
 l7 x10 (
 some (some 1,[(.bool false)],H)) (
 (p8 (strip v0) (strip v2)).bind fun x16 =>
 (a8 (.int .u8) .gtr x16 (.int .u8 126)).bind fun x17 =>
 j8 x17 (
 some (some 1,[(.bool false)],H)) (
 (a8 (.int .i64) .add (strip v2) (.int .i64 1)).bind fun x20 =>
 some (none,[(strip (strip v0)),v1,x20],H)))) (
 some (some 0,[v0],H)):=by kernel_rfl
theorem ah2 (a0:V) (H:VH):cv abh [a0] H =
 (w6 a0).bind fun x2 =>
 (j4 V4 [(strip a0),x2,(.int .i64 0)] H).bind fun r22 =>
 B5 r22.1 [
 l8 1 r22.2.1 fun v23 =>
 (w6 (v23 0)).bind fun x25 =>
 (a8 (.int .i64) .leq x25 (.int .i64 200)).bind fun x26 =>
 some (x26,r22.2.2),
 l8 1 r22.2.1 fun v28 =>
 some ((v28 0),r22.2.2)]:=(g9 vb _ _ _ rfl).trans (by kernel_rfl)
noncomputable def adf:List V->VH->Option (Option Nat × List V × VH):=y4 (vb.ctx cv j4) (vb.b.E2 18) (vb.A0 18) ⟨⟨[3,13,14,15],[(2,(2,0))],[(2,3)]⟩,[(.exit 0,⟨[3],[(2,(2,0))],[(2,3)]⟩)]⟩ (y2 Tryd.f18 3)
theorem afr (v0 v1 v2 v3 v4 v5 v6:V) (H:VH):adf [v0,v1,v2,v3,v4,v5,v6] H =
 (a8 (.int .i64) .lss v3 v2).bind fun x18 =>
 j8 x18 (
 (s6 1 v1 v3).bind fun x19 =>
 (y3 o7 false false 1 x19 H).bind fun r21 =>
 (K4 v0 1).bind fun x23 =>
 (y3 o7 false false 1 x23 r21.2).bind fun r25 =>
 (qc H4 [(l4 r25.2 r25.1),(l4 r25.2 r21.1)]).bind fun x27 =>
 (I9 .not x27).bind fun x28 =>
 j8 x28 (
 (K4 v0 1).bind fun x29 =>
 (y3 o7 true false 1 x29 r25.2).bind fun r31 =>
 (w5 (strip r21.1)).bind fun y34 =>
 (aaE r31.1).bind fun s36 =>
 (F1 false 1 16 s36 (.sl true [[y34]])).bind fun x35 =>
 (K4 v0 1).bind fun x37 =>
 (w5 x35).bind fun y39 =>
 (M6 x37 [y39] r31.2).bind fun H40 =>
 (a8 (.int .i64) .add v3 (.int .i64 1)).bind fun x41 =>
 some (none,[v0,v1,v2,x41,v4,v5,v6],H40)) (
 (a8 (.int .i64) .add v3 (.int .i64 1)).bind fun x43 =>
 some (none,[v0,v1,v2,x43,v4,v5,v6],r25.2))) (
 some (some 0,[v0,v4,v5,v6],H)):=by kernel_rfl
theorem agM (a0:V) (H:VH):cv aaM [a0] H =
 (C1 3 a0).bind fun c1 =>
 (pc D8 [(l4 H (strip (c1.getD 2 .g8)))]).bind fun x7 =>
 (w5 (strip (c1.getD 0 .g8))).bind fun y9 =>
 (w5 x7).bind fun y10 =>
 (M6 (.ptr H.length 0) [y9,(.sl true []),y10] (H++[[(.str []),(.sl true []),(.sl true [])]])).bind fun H13 =>
 (s8 (strip (c1.getD 1 .g8))).bind fun x16 =>
 (j4 adf [(.ptr H.length 0),(strip (c1.getD 1 .g8)),x16,(.int .i64 0),(.str []),(.sl true []),(.sl true [])] H13).bind fun r45 =>
 B5 r45.1 [
 l8 4 r45.2.1 fun v46 =>
 (y3 o7 true true 3 (v46 0) r45.2.2).bind fun r48 =>
 (C1 3 r48.1).bind fun c50 =>
 some ((.agg [(c50.getD 0 .g8),(c50.getD 1 .g8),(c50.getD 2 .g8)]),r48.2)]:=(g9 vb _ _ _ rfl).trans (by kernel_rfl)
theorem abQ (a0:V) (H:VH):cv D8 [a0] H =
 (ad8 .eql (strip a0)).bind fun x2 =>
 j8 x2 (
 some ((.sl true []),H)) (
 (F1 false 1 16 [] a0).bind fun x6 =>
 some (x6,H)):=(g9 vb _ _ _ rfl).trans (by kernel_rfl)
theorem aa0 (a0 a1:V) (H:VH):cv H4 [a0,a1] H =
 (qc I7 [(l4 H (strip a0)),(l4 H a1)]).bind fun x3 =>
 (a8 (.int .i64) .geq x3 (.int .i64 0)).bind fun x4 =>
 some (x4,H):=(g9 vb _ _ _ rfl).trans (by kernel_rfl)
noncomputable def D5:List V->VH->Option (Option Nat × List V × VH):=y4 (vb.ctx cv j4) (vb.b.E2 41) (vb.A0 41) ⟨⟨[0,1,7,8],[],[]⟩,[(.exit 0,⟨[],[],[]⟩),(.ret,⟨[4],[],[]⟩)]⟩ (y2 Tryd.f41 2)
theorem O2 (v0 v1 v2 v3:V) (H:VH):D5 [v0,v1,v2,v3] H =
 (a8 (.int .i64) .lss v3 v2).bind fun x4 =>
 j8 x4 (
 (s6 1 (strip v0) v3).bind fun x10 =>
 (y3 o7 false false 1 x10 H).bind fun r12 =>
 (a8 .str .eql v1 r12.1).bind fun x13 =>
 j8 x13 (
 some (some 1,[(strip v3)],r12.2)) (
 (a8 (.int .i64) .add (strip v3) (.int .i64 1)).bind fun x16 =>
 some (none,[v0,(strip v1),v2,x16],r12.2))) (
 some (some 0,[],H)):=by kernel_rfl
theorem abE (a0 a1:V) (H:VH):cv I7 [a0,a1] H =
 (s8 (strip a0)).bind fun x2 =>
 (j4 D5 [a0,a1,x2,(.int .i64 0)] H).bind fun r18 =>
 B5 r18.1 [
 l8 0 r18.2.1 fun v19 =>
 some ((.int .i64 (-1)),r18.2.2),
 l8 1 r18.2.1 fun v21 =>
 some ((v21 0),r18.2.2)]:=(g9 vb _ _ _ rfl).trans (by kernel_rfl)
theorem agB (a0 a1:V) (H:VH):cv E7 [a0,a1] H =
 (C1 3 a0).bind fun c1 =>
 (s6 1 (strip (c1.getD 1 .g8)) (.int .i64 0)).bind fun x5 =>
 (y3 o7 false false 1 x5 H).bind fun r7 =>
 (qc Y6 [(l4 r7.2 r7.1)]).bind fun x8 =>
 (y3 o7 false false 1 a1 r7.2).bind fun r10 =>
 (qc Y6 [(l4 r10.2 r10.1)]).bind fun x11 =>
 (a8 .str .eql x8 x11).bind fun x12 =>
 some (x12,r10.2):=(g9 vb _ _ _ rfl).trans (by kernel_rfl)
theorem aiK (a0:V) (H:VH):cv Y6 [a0] H =
 (qc aaQ [(l4 H a0),(l4 H (.str [64]))]).bind fun x2 =>
 (B8 x2 0).bind fun x4 =>
 (B8 x2 1).bind fun x5 =>
 (B8 x2 2).bind fun x6 =>
 some ((strip x5),H):=(g9 vb _ _ _ rfl).trans (by kernel_rfl)
noncomputable def A3:List V->VH->Option (Option Nat × List V × VH):=y4 (vb.ctx cv j4) (vb.b.E2 19) (vb.A0 19) ⟨⟨[0,1,7,8],[],[]⟩,[(.exit 0,⟨[],[],[]⟩),(.ret,⟨[4],[],[]⟩)]⟩ (y2 Tryd.f19 2)
theorem H9 (v0 v1 v2 v3:V) (H:VH):A3 [v0,v1,v2,v3] H =
 (a8 (.int .i64) .lss v3 v2).bind fun x4 =>
 j8 x4 (
 (s6 3 (strip v0) v3).bind fun x10 =>
 (y3 o7 false true 3 x10 H).bind fun r12 =>
 (aec v1).bind fun p14 =>
 (qc p14.1 ((([r12.1]:List V)++p14.2).map (l4 r12.2))).bind fun x13 =>
 j8 x13 (
 some (some 1,[(strip v3)],r12.2)) (
 (a8 (.int .i64) .add (strip v3) (.int .i64 1)).bind fun x17 =>
 some (none,[v0,(strip v1),v2,x17],r12.2))) (
 some (some 0,[],H)):=by kernel_rfl
theorem V6 (a0 a1:V) (H:VH):cv A4 [a0,a1] H =
 (s8 (strip a0)).bind fun x2 =>
 (j4 A3 [a0,a1,x2,(.int .i64 0)] H).bind fun r19 =>
 B5 r19.1 [
 l8 0 r19.2.1 fun v20 =>
 some ((.int .i64 (-1)),r19.2.2),
 l8 1 r19.2.1 fun v22 =>
 some ((v22 0),r19.2.2)]:=(g9 vb _ _ _ rfl).trans (by kernel_rfl)
noncomputable def aao:List V->VH->Option (Option Nat × List V × VH):=y4 (vb.ctx cv j4) (vb.b.E2 8) (vb.A0 8) ⟨⟨[0,1,5],[],[]⟩,[(.exit 0,⟨[],[],[]⟩),(.ret,⟨[4],[],[]⟩)]⟩ (y2 Tryd.f8 4)
theorem adi (v0 v1 v2:V) (H:VH):aao [v0,v1,v2] H =
 (s8 (strip v0)).bind fun x10 =>
 (a8 (.int .i64) .lss v2 x10).bind fun x11 =>
 j8 x11 (
 (s6 3 (strip v0) (strip v2)).bind fun x14 =>
 (y3 o7 false true 3 x14 H).bind fun r16 =>
 (s6 3 (strip v1) (strip (strip v2))).bind fun x19 =>
 (y3 o7 false true 3 x19 r16.2).bind fun r21 =>
 (qc W5 [(l4 r21.2 r16.1),(l4 r21.2 r21.1)]).bind fun x22 =>
 (I9 .not x22).bind fun x23 =>
 j8 x23 (
 some (some 1,[(.bool false)],r21.2)) (
 (a8 (.int .i64) .add (strip (strip (strip v2))) (.int .i64 1)).bind fun x26 =>
 some (none,[v0,v1,x26],r21.2))) (
 some (some 0,[],H)):=by kernel_rfl
theorem ajM (a0 a1:V) (H:VH):cv N6 [a0,a1] H =
 (s8 (strip a0)).bind fun x2 =>
 (s8 (strip a1)).bind fun x4 =>
 (a8 (.int .i64) .neq x2 x4).bind fun x5 =>
 j8 x5 (
 some ((.bool false),H)) (
 (j4 aao [a0,a1,(.int .i64 0)] H).bind fun r28 =>
 B5 r28.1 [
 l8 0 r28.2.1 fun v29 =>
 some ((.bool true),r28.2.2),
 l8 1 r28.2.1 fun v31 =>
 some ((v31 0),r28.2.2)]):=(g9 vb _ _ _ rfl).trans (by kernel_rfl)
theorem akV (a0 a1:V) (H:VH):cv W5 [a0,a1] H =
 (C1 3 a0).bind fun c1 =>
 (C1 3 a1).bind fun c3 =>
 (a8 .str .neq (strip (c1.getD 0 .g8)) (strip (c3.getD 0 .g8))).bind fun x9 =>
 j8 x9 (
 some ((.bool false),H)) (
 (qc U4 [(l4 H (strip (c1.getD 1 .g8))),(l4 H (strip (c3.getD 1 .g8)))]).bind fun x15 =>
 (I9 .not x15).bind fun x16 =>
 j8 x16 (
 some ((.bool false),H)) (
 (qc U4 [(l4 H (strip (c1.getD 2 .g8))),(l4 H (strip (c3.getD 2 .g8)))]).bind fun x22 =>
 (I9 .not x22).bind fun x23 =>
 j8 x23 (
 some ((.bool false),H)) (
 some ((.bool true),H)))):=(g9 vb _ _ _ rfl).trans (by kernel_rfl)
noncomputable def U3:List V->VH->Option (Option Nat × List V × VH):=y4 (vb.ctx cv j4) (vb.b.E2 23) (vb.A0 23) ⟨⟨[0,1,5],[],[]⟩,[(.exit 0,⟨[],[],[]⟩),(.ret,⟨[4],[],[]⟩)]⟩ (y2 Tryd.f23 4)
theorem acm (v0 v1 v2:V) (H:VH):U3 [v0,v1,v2] H =
 (s8 (strip v0)).bind fun x10 =>
 (a8 (.int .i64) .lss v2 x10).bind fun x11 =>
 j8 x11 (
 (s6 1 (strip v0) (strip v2)).bind fun x14 =>
 (y3 o7 false false 1 x14 H).bind fun r16 =>
 (s6 1 (strip v1) (strip (strip v2))).bind fun x19 =>
 (y3 o7 false false 1 x19 r16.2).bind fun r21 =>
 (a8 .str .neq r16.1 r21.1).bind fun x22 =>
 j8 x22 (
 some (some 1,[(.bool false)],r21.2)) (
 (a8 (.int .i64) .add (strip (strip (strip v2))) (.int .i64 1)).bind fun x25 =>
 some (none,[v0,v1,x25],r21.2))) (
 some (some 0,[],H)):=by kernel_rfl
theorem ah6 (a0 a1:V) (H:VH):cv U4 [a0,a1] H =
 (s8 (strip a0)).bind fun x2 =>
 (s8 (strip a1)).bind fun x4 =>
 (a8 (.int .i64) .neq x2 x4).bind fun x5 =>
 j8 x5 (
 some ((.bool false),H)) (
 (j4 U3 [a0,a1,(.int .i64 0)] H).bind fun r27 =>
 B5 r27.1 [
 l8 0 r27.2.1 fun v28 =>
 some ((.bool true),r27.2.2),
 l8 1 r27.2.1 fun v30 =>
 some ((v30 0),r27.2.2)]):=(g9 vb _ _ _ rfl).trans (by kernel_rfl)
theorem ai5 (a0 a1:V) (H:VH):cv abO [a0,a1] H =
 (C1 3 a0).bind fun c1 =>
 (cv I1 [(strip (strip (c1.getD 1 .g8))),(strip a1)] H).bind fun r7 =>
 (cv I1 [(strip (strip (c1.getD 2 .g8))),(strip r7.1)] r7.2).bind fun r13 =>
 some (r13.1,r13.2):=(g9 vb _ _ _ rfl).trans (by kernel_rfl)
noncomputable def acv:List V->VH->Option (Option Nat × List V × VH):=y4 (vb.ctx cv j4) (vb.b.E2 24) (vb.A0 24) ⟨⟨[0,1,5],[],[]⟩,[(.exit 0,⟨[1],[],[]⟩)]⟩ (y2 Tryd.f24 2)
theorem afb (v0 v1 v2:V) (H:VH):acv [v0,v1,v2] H =
 (s8 (strip v0)).bind fun x4 =>
 (a8 (.int .i64) .lss v2 x4).bind fun x5 =>
 j8 x5 (
 (qc D3 [(l4 H v1)]).bind fun x9 =>
 (s6 1 (strip v0) (strip v2)).bind fun x10 =>
 (w5 x9).bind fun y12 =>
 (M6 x10 [y12] H).bind fun H13 =>
 (a8 (.int .i64) .add (strip v1) (.int .i64 1)).bind fun x15 =>
 (a8 (.int .i64) .add (strip (strip v2)) (.int .i64 1)).bind fun x18 =>
 some (none,[v0,x15,x18],H13)) (
 some (some 0,[v1],H)):=by kernel_rfl
theorem agC (a0 a1:V) (H:VH):cv I1 [a0,a1] H =
 (j4 acv [a0,a1,(.int .i64 0)] H).bind fun r20 =>
 B5 r20.1 [
 l8 1 r20.2.1 fun v21 =>
 some ((v21 0),r20.2.2)]:=(g9 vb _ _ _ rfl).trans (by kernel_rfl)
noncomputable def aew:List V->VH->Option (Option Nat × List V × VH):=y4 (vb.ctx cv j4) (vb.b.E2 25) (vb.A0 25) ⟨⟨[0,3],[],[]⟩,[(.exit 0,⟨[3],[],[]⟩)]⟩ (y2 Tryd.f25 4)
theorem agA (v0 v1:V) (H:VH):aew [v0,v1] H =
 (a8 (.int .i64) .gtr v0 (.int .i64 0)).bind fun x6 =>
 j8 x6 (
 (a8 (.int .i64) .rem (strip v0) (.int .i64 10)).bind fun x8 =>
 (a8 (.int .i64) .add (.int .i64 48) x8).bind fun x9 =>
 (ag0 .u8 x9).bind fun x10 =>
 (w5 x10).bind fun y12 =>
 (ag7 (.sl true [[y12]]) H).bind fun x13 =>
 (a8 .str .add x13 v1).bind fun x15 =>
 (a8 (.int .i64) .quo (strip (strip v0)) (.int .i64 10)).bind fun x18 =>
 some (none,[x18,x15],H)) (
 some (some 0,[v1],H)):=by kernel_rfl
theorem ajy (a0:V) (H:VH):cv D3 [a0] H =
 (a8 (.int .i64) .leq a0 (.int .i64 0)).bind fun x2 =>
 j8 x2 (
 some ((.str [109,48]),H)) (
 (j4 aew [(strip a0),(.str [])] H).bind fun r20 =>
 B5 r20.1 [
 l8 1 r20.2.1 fun v21 =>
 (a8 .str .add (.str [109]) (v21 0)).bind fun x23 =>
 some (x23,r20.2.2)]):=(g9 vb _ _ _ rfl).trans (by kernel_rfl)
noncomputable def adP:List V->VH->Option (Option Nat × List V × VH):=y4 (vb.ctx cv j4) (vb.b.E2 11) (vb.A0 11) ⟨⟨[0,1,5],[],[]⟩,[(.exit 0,⟨[1],[],[]⟩)]⟩ (y2 Tryd.f11 2)
theorem acq (v0 v1 v2:V) (H:VH):adP [v0,v1,v2] H =
 (s8 (strip v0)).bind fun x4 =>
 (a8 (.int .i64) .lss v2 x4).bind fun x5 =>
 j8 x5 (
 (qc D3 [(l4 H v1)]).bind fun x9 =>
 (s6 3 (strip v0) (strip v2)).bind fun x10 =>
 (K4 x10 0).bind fun x11 =>
 (w5 x9).bind fun y13 =>
 (M6 x11 [y13] H).bind fun H14 =>
 (a8 (.int .i64) .add (strip v1) (.int .i64 1)).bind fun x16 =>
 (s6 3 (strip v0) (strip (strip v2))).bind fun x20 =>
 (K4 x20 1).bind fun x21 =>
 (y3 o7 false false 1 x21 H14).bind fun r23 =>
 (cv I1 [(strip r23.1),(strip x16)] r23.2).bind fun r26 =>
 (s6 3 (strip v0) (strip (strip (strip v2)))).bind fun x30 =>
 (K4 x30 2).bind fun x31 =>
 (y3 o7 false false 1 x31 r26.2).bind fun r33 =>
 (cv I1 [(strip r33.1),(strip r26.1)] r33.2).bind fun r36 =>
 (a8 (.int .i64) .add (strip (strip (strip (strip v2)))) (.int .i64 1)).bind fun x39 =>
 some (none,[v0,r36.1,x39],r36.2)) (
 some (some 0,[v1],H)):=by kernel_rfl
theorem aik (a0 a1:V) (H:VH):cv abd [a0,a1] H =
 (j4 adP [a0,a1,(.int .i64 0)] H).bind fun r41 =>
 B5 r41.1 [
 l8 1 r41.2.1 fun v42 =>
 some ((v42 0),r41.2.2)]:=(g9 vb _ _ _ rfl).trans (by kernel_rfl)
noncomputable def adF:List V->VH->Option (Option Nat × List V × VH):=y4 (vb.ctx cv j4) (vb.b.E2 12) (vb.A0 12) ⟨⟨[0,1,5],[],[]⟩,[(.exit 0,⟨[1],[],[]⟩),(.ret,⟨[4],[],[]⟩)]⟩ (y2 Tryd.f12 2)
theorem agr (v0 v1 v2:V) (H:VH):adF [v0,v1,v2] H =
 (s8 (strip v0)).bind fun x4 =>
 (a8 (.int .i64) .lss v2 x4).bind fun x5 =>
 j8 x5 (
 (s6 3 (strip v0) (strip v2)).bind fun x8 =>
 (K4 x8 0).bind fun x9 =>
 (y3 o7 false false 1 x9 H).bind fun r11 =>
 (qc D3 [(l4 r11.2 v1)]).bind fun x13 =>
 (a8 .str .neq r11.1 x13).bind fun x14 =>
 j8 x14 (
 some (some 1,[(.int .i64 (-1))],r11.2)) (
 (a8 (.int .i64) .add (strip v1) (.int .i64 1)).bind fun x17 =>
 (s6 3 (strip v0) (strip (strip v2))).bind fun x21 =>
 (K4 x21 1).bind fun x22 =>
 (y3 o7 false false 1 x22 r11.2).bind fun r24 =>
 (qc M3 [(l4 r24.2 r24.1),(l4 r24.2 x17)]).bind fun x26 =>
 (a8 (.int .i64) .lss x26 (.int .i64 0)).bind fun x29 =>
 j8 x29 (
 some (some 1,[(.int .i64 (-1))],r24.2)) (
 (s6 3 (strip v0) (strip (strip (strip v2)))).bind fun x33 =>
 (K4 x33 2).bind fun x34 =>
 (y3 o7 false false 1 x34 r24.2).bind fun r36 =>
 (qc M3 [(l4 r36.2 r36.1),(l4 r36.2 (strip x26))]).bind fun x38 =>
 (a8 (.int .i64) .lss x38 (.int .i64 0)).bind fun x41 =>
 j8 x41 (
 some (some 1,[(.int .i64 (-1))],r36.2)) (
 (a8 (.int .i64) .add (strip (strip (strip (strip v2)))) (.int .i64 1)).bind fun x44 =>
 some (none,[v0,(strip x38),x44],r36.2))))) (
 some (some 0,[v1],H)):=by kernel_rfl
theorem ah7 (a0 a1:V) (H:VH):cv L1 [a0,a1] H =
 (j4 adF [a0,a1,(.int .i64 0)] H).bind fun r46 =>
 B5 r46.1 [
 l8 1 r46.2.1 fun v47 =>
 some ((v47 0),r46.2.2),
 l8 1 r46.2.1 fun v50 =>
 some ((v50 0),r46.2.2)]:=(g9 vb _ _ _ rfl).trans (by kernel_rfl)
noncomputable def acC:List V->VH->Option (Option Nat × List V × VH):=y4 (vb.ctx cv j4) (vb.b.E2 26) (vb.A0 26) ⟨⟨[0,1,5],[],[]⟩,[(.exit 0,⟨[1],[],[]⟩),(.ret,⟨[4],[],[]⟩)]⟩ (y2 Tryd.f26 2)
theorem afa (v0 v1 v2:V) (H:VH):acC [v0,v1,v2] H =
 (s8 (strip v0)).bind fun x4 =>
 (a8 (.int .i64) .lss v2 x4).bind fun x5 =>
 j8 x5 (
 (s6 1 (strip v0) (strip v2)).bind fun x8 =>
 (y3 o7 false false 1 x8 H).bind fun r10 =>
 (qc D3 [(l4 r10.2 v1)]).bind fun x12 =>
 (a8 .str .neq r10.1 x12).bind fun x13 =>
 j8 x13 (
 some (some 1,[(.int .i64 (-1))],r10.2)) (
 (a8 (.int .i64) .add (strip v1) (.int .i64 1)).bind fun x16 =>
 (a8 (.int .i64) .add (strip (strip v2)) (.int .i64 1)).bind fun x19 =>
 some (none,[v0,x16,x19],r10.2))) (
 some (some 0,[v1],H)):=by kernel_rfl
theorem agE (a0 a1:V) (H:VH):cv M3 [a0,a1] H =
 (j4 acC [a0,a1,(.int .i64 0)] H).bind fun r21 =>
 B5 r21.1 [
 l8 1 r21.2.1 fun v22 =>
 some ((v22 0),r21.2.2),
 l8 1 r21.2.1 fun v25 =>
 some ((v25 0),r21.2.2)]:=(g9 vb _ _ _ rfl).trans (by kernel_rfl)
end Go.Proofs.YtpbgpeojlfdpoaaDoor.Q
