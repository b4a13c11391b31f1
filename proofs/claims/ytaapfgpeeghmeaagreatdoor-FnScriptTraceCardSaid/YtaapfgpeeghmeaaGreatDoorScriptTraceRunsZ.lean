/- What a call of each function comes to. -/
import Derived.Test.YtaapfgpeeghmeaaGreatDoorScriptTraceBaseZ
namespace Go.Proofs.YtaapfgpeeghmeaaGreatDoor.Q
open Go Go.AM Go.Proofs
set_option linter.unusedVariables false
set_option maxRecDepth 100000
theorem ah8 (a0:V) (H:VH):cv abo [a0] H =
 (D6 (strip a0)).bind fun x2 =>
 (b7 (.int .i64) .gtr x2 (.int .i64 1048576)).bind fun x3 =>
 l6 x3 (
 some ((.bool true),H)) (
 (cv aaV [a0] H).bind fun r7 =>
 (C9 7 r7.1).bind fun c10 =>
 (qc V6 [(j6 r7.2 (.agg [(strip (c10.getD 0 .c9)),(strip (c10.getD 1 .c9)),(strip (c10.getD 2 .c9)),(strip (c10.getD 3 .c9)),(strip (c10.getD 4 .c9)),(strip (c10.getD 5 .c9)),(strip (c10.getD 6 .c9))]))]).bind fun x12 =>
 (id (
 (qc W2 [(j6 r7.2 (.agg [(strip (c10.getD 0 .c9)),(strip (c10.getD 1 .c9)),(strip (c10.getD 2 .c9)),(strip (c10.getD 3 .c9)),(strip (c10.getD 4 .c9)),(strip (c10.getD 5 .c9)),(strip (c10.getD 6 .c9))]))]).bind fun x16 =>
 (b7 .str .neq x12 x16).bind fun x17 =>
 o7 x17 (
 (qc W2 [(j6 r7.2 (.agg [(strip (c10.getD 0 .c9)),(strip (c10.getD 1 .c9)),(strip (c10.getD 2 .c9)),(strip (c10.getD 3 .c9)),(strip (c10.getD 4 .c9)),(strip (c10.getD 5 .c9)),(strip (c10.getD 6 .c9))]))]).bind fun x22 =>
 (b7 .str .eql (strip x12) x22).bind fun x23 =>
 some (0,[x23],r7.2)) (
 (b7 .str .eql (strip x12) (.str [])).bind fun x26 =>
 l6 x26 (
 (qc W2 [(j6 r7.2 (.agg [(strip (c10.getD 0 .c9)),(strip (c10.getD 1 .c9)),(strip (c10.getD 2 .c9)),(strip (c10.getD 3 .c9)),(strip (c10.getD 4 .c9)),(strip (c10.getD 5 .c9)),(strip (c10.getD 6 .c9))]))]).bind fun x30 =>
 (b7 .str .eql (strip (strip x12)) x30).bind fun x31 =>
 some (0,[x31],r7.2)) (
 some (1,[(strip (strip x12))],r7.2))):Option (Nat × List V × VH))).bind fun r33 =>
 G0 r33.1 [
 y8 1 r33.2.1 fun v34 =>
 some ((v34 0),r33.2.2),
 y8 1 r33.2.1 fun v35 =>
 (b7 .str .add (.str [100,97,116,101,32]) (v35 0)).bind fun x37 =>
 (b7 .str .add x37 (.str [10,98,111,120,32,97,64,98,10,115,97,121,32,72,69,76,79,32,120,10,115,97,121,32,77,65,73,76,32,70,82,79,77,58,60,62,10,115,97,121,32,82,67,80,84,32,84,79,58,60,97,64,98,62,10,115,97,121,32,68,65,84,65,10,115,97,121,32,46,10,112,97,115,115,10,116,97,107,101,32,97,64,98,10])).bind fun x38 =>
 (qc aaZ [(j6 r33.2.2 x38)]).bind fun x39 =>
 (b7 .str .add (.str [112,97,115,115,101,100,32,50,53,48,10,101,110,100,10,102,114,111,109,32,60,62,10,62,32,82,101,99,101,105,118,101,100,58,32,98,121,32,103,97,116,101,46,101,120,97,109,112,108,101,59,32]) (strip (v35 0))).bind fun x42 =>
 (b7 .str .add x42 (.str [10,101,110,100,10])).bind fun x43 =>
 (F8 x39).bind fun x46 =>
 (F8 x43).bind fun x48 =>
 (b7 (.int .i64) .gtr x46 x48).bind fun x49 =>
 o7 x49 (
 (F8 (strip (strip x39))).bind fun x53 =>
 (F8 (strip x43)).bind fun x55 =>
 (b7 (.int .i64) .sub x53 x55).bind fun x56 =>
 (H5 (strip x39) (some x56) none).bind fun x57 =>
 (b7 .str .eql x57 (strip (strip x43))).bind fun x59 =>
 some (x59,r33.2.2)) (
 some ((.bool false),r33.2.2))]):=(j8 vb _ _ _ rfl).trans (by kernel_rfl)
theorem ahq (a0:V) (H:VH):cv aaV [a0] H =
 (cv abk [a0] H).bind fun r3 =>
 (C9 7 r3.1).bind fun c5 =>
 some ((.agg [(c5.getD 0 .c9),(c5.getD 1 .c9),(c5.getD 2 .c9),(c5.getD 3 .c9),(c5.getD 4 .c9),(c5.getD 5 .c9),(c5.getD 6 .c9)]),r3.2):=(j8 vb _ _ _ rfl).trans (by kernel_rfl)
theorem ah0 (a0:V) (H:VH):cv abk [a0] H =
 (cv ab2 [a0] H).bind fun r3 =>
 (cv aeH [(strip (strip (strip r3.1)))] r3.2).bind fun r9 =>
 (cv ab3 [(strip (strip r3.1)),(strip r9.1)] r9.2).bind fun r11 =>
 (cv ab3 [(strip r3.1),(strip r11.1)] r11.2).bind fun r13 =>
 (C9 7 r13.1).bind fun c15 =>
 some ((.agg [(c15.getD 0 .c9),(c15.getD 1 .c9),(c15.getD 2 .c9),(c15.getD 3 .c9),(c15.getD 4 .c9),(c15.getD 5 .c9),(c15.getD 6 .c9)]),r13.2):=(j8 vb _ _ _ rfl).trans (by kernel_rfl)
theorem am4 (a0:V) (H:VH):cv ab2 [a0] H =
 (id (
 (D6 (strip a0)).bind fun x2 =>
 (b7 (.int .i64) .gtr x2 (.int .i64 2000)).bind fun x3 =>
 l6 x3 (
 (aaU 1 (strip a0) none (some (.int .i64 2000))).bind fun x5 =>
 some (0,[x5],H)) (
 some (0,[a0],H)):Option (Nat × List V × VH))).bind fun r7 =>
 G0 r7.1 [
 y8 1 r7.2.1 fun v8 =>
 (A8 (v8 0)).bind fun y11 =>
 some ((.ptr r7.2.2.length 0),(r7.2.2++[[y11,(.int .i64 0)]]))]:=(j8 vb _ _ _ rfl).trans (by kernel_rfl)
theorem aoM (a0:V) (H:VH):cv aeH [a0] H =
 (cv F9 [(strip a0),(.sl false (n9 [[(.int .i64 1767596889)],[(.int .i64 951782400)],[(.int .i64 86400)],[(.int .i64 1000000000)],[(.int .i64 4102358400)],[(.int .i64 1709164800)],[(.int .i64 1709251199)]]))] H).bind fun r4 =>
 (cv Q4 [(strip (strip a0)),(.int .i64 100000)] r4.2).bind fun r7 =>
 (b7 (.int .i64) .add r4.1 r7.1).bind fun x8 =>
 (cv F9 [(strip (strip (strip a0))),(.sl false (n9 [[(.int .i64 0)],[(.int .i64 60)],[(.int .i64 (-480))],[(.int .i64 330)],[(.int .i64 0)],[(.int .i64 840)],[(.int .i64 (-720))]]))] r7.2).bind fun r12 =>
 (pc acD [(j6 r12.2 x8),(j6 r12.2 r12.1)]).bind fun x13 =>
 (C5 x13 0).bind fun x15 =>
 (C5 x13 1).bind fun x16 =>
 (C9 7 (strip x15)).bind fun c19 =>
 some ((.agg [(strip (c19.getD 0 .c9)),(strip (c19.getD 1 .c9)),(strip (c19.getD 2 .c9)),(strip (c19.getD 3 .c9)),(strip (c19.getD 4 .c9)),(strip (c19.getD 5 .c9)),(strip (c19.getD 6 .c9))]),r12.2):=(j8 vb _ _ _ rfl).trans (by kernel_rfl)
theorem ald (a0 a1:V) (H:VH):cv F9 [a0,a1] H =
 (D6 (strip a1)).bind fun x4 =>
 (cv Q4 [(strip a0),(strip x4)] H).bind fun r6 =>
 (A6 1 (strip a1) r6.1).bind fun x7 =>
 (B2 o6 false false 1 x7 r6.2).bind fun r9 =>
 some (r9.1,r9.2):=(j8 vb _ _ _ rfl).trans (by kernel_rfl)
theorem ajZ (a0 a1:V) (H:VH):cv Q4 [a0,a1] H =
 (L4 (strip a0)).bind fun x3 =>
 (D9 x3 1).bind fun x4 =>
 (B2 o6 false false 1 x4 H).bind fun r6 =>
 (b7 (.int .i64) .add r6.1 (.int .i64 1)).bind fun x7 =>
 (L4 a0).bind fun x8 =>
 (D9 x8 1).bind fun x9 =>
 (A8 x7).bind fun y11 =>
 (K8 x9 [y11] r6.2).bind fun H12 =>
 (id (
 (b7 (.int .i64) .lss a1 (.int .i64 1)).bind fun x14 =>
 o7 x14 (
 some (0,[(.int .i64 0)],H12)) (
 (L4 (strip (strip a0))).bind fun x19 =>
 (D9 x19 0).bind fun x20 =>
 (B2 o6 false false 1 x20 H12).bind fun r22 =>
 (D6 r22.1).bind fun x23 =>
 (b7 (.int .i64) .eql x23 (.int .i64 0)).bind fun x24 =>
 l6 x24 (
 some (0,[(.int .i64 0)],r22.2)) (
 some (1,[(strip (strip (strip a0))),(strip a1)],r22.2))):Option (Nat × List V × VH))).bind fun r27 =>
 G0 r27.1 [
 y8 1 r27.2.1 fun v28 =>
 some ((v28 0),r27.2.2),
 y8 2 r27.2.1 fun v29 =>
 (L4 (v29 0)).bind fun x31 =>
 (D9 x31 1).bind fun x32 =>
 (B2 o6 false false 1 x32 r27.2.2).bind fun r34 =>
 (b7 (.int .i64) .sub r34.1 (.int .i64 1)).bind fun x35 =>
 (L4 (strip (v29 0))).bind fun x39 =>
 (D9 x39 0).bind fun x40 =>
 (B2 o6 false false 1 x40 r34.2).bind fun r42 =>
 (D6 r42.1).bind fun x43 =>
 (b7 (.int .i64) .lss x35 x43).bind fun x44 =>
 l6 x44 (
 (L4 (strip (strip (v29 0)))).bind fun x46 =>
 (D9 x46 0).bind fun x47 =>
 (B2 o6 false false 1 x47 r42.2).bind fun r49 =>
 (A6 1 r49.1 (strip x35)).bind fun x51 =>
 (B2 o6 false false 1 x51 r49.2).bind fun r53 =>
 (S7 .i64 r53.1).bind fun x54 =>
 (b7 (.int .i64) .rem x54 (v29 1)).bind fun x56 =>
 some (x56,r53.2)) (
 (L4 (strip (strip (v29 0)))).bind fun x59 =>
 (D9 x59 0).bind fun x60 =>
 (B2 o6 false false 1 x60 r42.2).bind fun r62 =>
 (L4 (strip (strip (strip (v29 0))))).bind fun x65 =>
 (D9 x65 0).bind fun x66 =>
 (B2 o6 false false 1 x66 r62.2).bind fun r68 =>
 (D6 r68.1).bind fun x69 =>
 (b7 (.int .i64) .rem (strip x35) x69).bind fun x70 =>
 (A6 1 r62.1 x70).bind fun x71 =>
 (B2 o6 false false 1 x71 r68.2).bind fun r73 =>
 (S7 .i64 r73.1).bind fun x74 =>
 (b7 (.int .i64) .mul x74 (.int .i64 131)).bind fun x75 =>
 (L4 (strip (strip (strip (strip (v29 0)))))).bind fun x77 =>
 (D9 x77 0).bind fun x78 =>
 (B2 o6 false false 1 x78 r73.2).bind fun r80 =>
 (b7 (.int .i64) .mul (strip (strip x35)) (.int .i64 7)).bind fun x82 =>
 (b7 (.int .i64) .add x82 (.int .i64 3)).bind fun x83 =>
 (L4 (strip (strip (strip (strip (strip (v29 0))))))).bind fun x85 =>
 (D9 x85 0).bind fun x86 =>
 (B2 o6 false false 1 x86 r80.2).bind fun r88 =>
 (D6 r88.1).bind fun x89 =>
 (b7 (.int .i64) .rem x83 x89).bind fun x90 =>
 (A6 1 r80.1 x90).bind fun x91 =>
 (B2 o6 false false 1 x91 r88.2).bind fun r93 =>
 (S7 .i64 r93.1).bind fun x94 =>
 (b7 (.int .i64) .mul x94 (.int .i64 1117)).bind fun x95 =>
 (b7 (.int .i64) .add x75 x95).bind fun x96 =>
 (b7 (.int .i64) .mul (strip (strip (strip x35))) (.int .i64 29)).bind fun x98 =>
 (b7 (.int .i64) .add x96 x98).bind fun x99 =>
 (L4 (strip (strip (strip (strip (strip (strip (v29 0)))))))).bind fun x102 =>
 (D9 x102 0).bind fun x103 =>
 (B2 o6 false false 1 x103 r93.2).bind fun r105 =>
 (D6 r105.1).bind fun x106 =>
 (b7 (.int .i64) .quo (strip (strip (strip (strip x35)))) x106).bind fun x107 =>
 (b7 (.int .i64) .mul x107 (.int .i64 53)).bind fun x108 =>
 (b7 (.int .i64) .add x99 x108).bind fun x109 =>
 (b7 (.int .i64) .quo (strip x109) (.int .i64 64)).bind fun x113 =>
 (b7 (.int .i64) .xor x109 x113).bind fun x114 =>
 (b7 (.int .i64) .rem x114 (v29 1)).bind fun x118 =>
 some (x118,r105.2))]:=(j8 vb _ _ _ rfl).trans (by kernel_rfl)
noncomputable def ah6:List V->VH->Option (Option Nat × List V × VH):=I4 (vb.ctx cv z8) (vb.b.M7 64) (vb.F7 64) ⟨⟨[7],[(4,(4,0)),(9,(9,0))],[(4,7),(9,7)]⟩,[(.exit 0,⟨[7],[(4,(4,0)),(9,(9,0))],[(4,7),(9,7)]⟩)]⟩ (I5 Tryz.f64 9)
theorem alk (v0 v1 v2 v3 v4 v5 v6 v7 v8 v9 v10 v11 v12 v13 v14:V) (H:VH):ah6 [v0,v1,v2,v3,v4,v5,v6,v7,v8,v9,v10,v11,v12,v13,v14] H =
 (qc aad [(j6 H (strip v8)),(j6 H (strip v9))]).bind fun x76 =>
 (b7 (.int .i64) .geq v0 x76).bind fun x77 =>
 l6 x77 (
 (qc aad [(j6 H (strip v8)),(j6 H (strip v9))]).bind fun x83 =>
 (b7 (.int .i64) .sub (strip v0) x83).bind fun x84 =>
 (b7 (.int .i64) .add (strip v9) (.int .i64 1)).bind fun x88 =>
 (A8 x88).bind fun y91 =>
 (b7 (.int .i64) .eql (strip y91) (.int .i64 13)).bind fun x94 =>
 l6 x94 (
 (b7 (.int .i64) .add (strip v8) (.int .i64 1)).bind fun x99 =>
 (A8 x99).bind fun y102 =>
 some (none,[x84,v1,v2,v3,v4,v5,v6,v7,y102,(.int .i64 1),v10,v11,v12,v13,v14],H)) (
 some (none,[x84,v1,v2,v3,v4,v5,v6,v7,v8,y91,v10,v11,v12,v13,v14],H))) (
 some (some 0,[(strip v0),v1,v2,v3,v4,v5,v6,v7,v8,v9,v10,v11,v12,v13,v14],H)):=by kernel_rfl
theorem aoQ (a0 a1:V) (H:VH):cv acD [a0,a1] H =
 (id (
 (b7 (.int .i64) .lss a0 (.int .i64 0)).bind fun x3 =>
 o7 x3 (
 some (0,[(.bool false),(.int .i64 0),(.int .i64 0),(.int .i64 0),(.int .i64 0),(.int .i64 0),(.int .i64 0),(.int .i64 0)],H)) (
 (b7 (.int .i64) .geq (strip a0) (.int .i64 4102444800)).bind fun x12 =>
 o7 x12 (
 some (0,[(.bool false),(.int .i64 0),(.int .i64 0),(.int .i64 0),(.int .i64 0),(.int .i64 0),(.int .i64 0),(.int .i64 0)],H)) (
 (qc acx [(j6 H a1)]).bind fun x20 =>
 (D7 .not x20).bind fun x21 =>
 l6 x21 (
 some (0,[(.bool false),(.int .i64 0),(.int .i64 0),(.int .i64 0),(.int .i64 0),(.int .i64 0),(.int .i64 0),(.int .i64 0)],H)) (
 some (1,[(strip (strip a0)),(strip a1),(.int .i64 0),(.int .i64 0),(.int .i64 0),(.int .i64 0),(.int .i64 0),(.int .i64 0),(.int .i64 0)],H)))):Option (Nat × List V × VH))).bind fun r26 =>
 G0 r26.1 [
 y8 8 r26.2.1 fun v27 =>
 some ((.A4 [(.agg [(v27 1),(v27 2),(v27 3),(v27 4),(v27 5),(v27 6),(v27 7)]),(v27 0)]),r26.2.2),
 y8 9 r26.2.1 fun v28 =>
 (b7 (.int .i64) .mul (v28 1) (.int .i64 60)).bind fun x31 =>
 (b7 (.int .i64) .add (v28 0) x31).bind fun x32 =>
 (id (
 (b7 (.int .i64) .lss x32 (.int .i64 0)).bind fun x35 =>
 o7 x35 (
 some (0,[(.bool false),(.int .i64 0),(.int .i64 0),(.int .i64 0),(.int .i64 0),(.int .i64 0),(.int .i64 0),(.int .i64 0)],r26.2.2)) (
 (b7 (.int .i64) .geq (strip x32) (.int .i64 4102444800)).bind fun x42 =>
 l6 x42 (
 some (0,[(.bool false),(.int .i64 0),(.int .i64 0),(.int .i64 0),(.int .i64 0),(.int .i64 0),(.int .i64 0),(.int .i64 0)],r26.2.2)) (
 some (1,[(strip (v28 1)),(strip (strip x32)),(v28 2),(v28 3),(v28 4),(v28 5),(v28 6),(v28 7),(v28 8)],r26.2.2))):Option (Nat × List V × VH))).bind fun r47 =>
 G0 r47.1 [
 y8 8 r47.2.1 fun v48 =>
 some ((.A4 [(.agg [(v48 1),(v48 2),(v48 3),(v48 4),(v48 5),(v48 6),(v48 7)]),(v48 0)]),r47.2.2),
 y8 9 r47.2.1 fun v49 =>
 (b7 (.int .i64) .quo (v49 1) (.int .i64 86400)).bind fun x51 =>
 (b7 (.int .i64) .rem (strip (v49 1)) (.int .i64 86400)).bind fun x54 =>
 (b7 (.int .i64) .quo x54 (.int .i64 3600)).bind fun x57 =>
 (b7 (.int .i64) .quo (strip x54) (.int .i64 60)).bind fun x59 =>
 (b7 (.int .i64) .rem x59 (.int .i64 60)).bind fun x60 =>
 (b7 (.int .i64) .rem (strip (strip x54)) (.int .i64 60)).bind fun x62 =>
 (A8 x57).bind fun y65 =>
 (A8 x60).bind fun y66 =>
 (A8 x62).bind fun y67 =>
 (A8 (v49 0)).bind fun y68 =>
 (z8 ah6 [x51,(v49 2),(v49 3),(v49 4),(v49 5),(v49 6),(v49 7),(v49 8),(.int .i64 1970),(.int .i64 1),(.int .i64 0),y65,y66,y67,y68] r47.2.2).bind fun r103 =>
 G0 r103.1 [
 y8 15 r103.2.1 fun v104 =>
 (b7 (.int .i64) .add (v104 0) (.int .i64 1)).bind fun x106 =>
 (A8 x106).bind fun y109 =>
 some ((.A4 [(.agg [(strip (v104 8)),(strip (v104 9)),(strip y109),(strip (v104 11)),(strip (v104 12)),(strip (v104 13)),(strip (v104 14))]),(.bool true)]),r103.2.2)]]]:=(j8 vb _ _ _ rfl).trans (by kernel_rfl)
theorem aow (a0:V) (H:VH):cv acx [a0] H =
 (b7 (.int .i64) .geq a0 (.int .i64 (-720))).bind fun x2 =>
 o7 x2 (
 (b7 (.int .i64) .leq (strip a0) (.int .i64 840)).bind fun x5 =>
 some (x5,H)) (
 some ((.bool false),H)):=(j8 vb _ _ _ rfl).trans (by kernel_rfl)
theorem an9 (a0 a1:V) (H:VH):cv aad [a0,a1] H =
 (id (
 (b7 (.int .i64) .lss a0 (.int .i64 1970)).bind fun x2 =>
 o7 x2 (
 some (0,[(.int .i64 0)],H)) (
 (b7 (.int .i64) .gtr (strip a0) (.int .i64 2099)).bind fun x11 =>
 o7 x11 (
 some (0,[(.int .i64 0)],H)) (
 (b7 (.int .i64) .lss a1 (.int .i64 1)).bind fun x19 =>
 o7 x19 (
 some (0,[(.int .i64 0)],H)) (
 (b7 (.int .i64) .gtr (strip a1) (.int .i64 12)).bind fun x25 =>
 l6 x25 (
 some (0,[(.int .i64 0)],H)) (
 some (1,[(strip (strip a0)),(strip (strip a1))],H))))):Option (Nat × List V × VH))).bind fun r28 =>
 G0 r28.1 [
 y8 1 r28.2.1 fun v29 =>
 some ((v29 0),r28.2.2),
 y8 2 r28.2.1 fun v30 =>
 (id (
 (b7 (.int .i64) .eql (v30 1) (.int .i64 2)).bind fun x34 =>
 o7 x34 (
 (qc acz [(j6 r28.2.2 (v30 0))]).bind fun x37 =>
 l6 x37 (
 some (0,[(.int .i64 29)],r28.2.2)) (
 some (1,[(strip (v30 1)),(.sl false (n9 [[(.int .i64 31)],[(.int .i64 28)],[(.int .i64 31)],[(.int .i64 30)],[(.int .i64 31)],[(.int .i64 30)],[(.int .i64 31)],[(.int .i64 31)],[(.int .i64 30)],[(.int .i64 31)],[(.int .i64 30)],[(.int .i64 31)]]))],r28.2.2))) (
 some (1,[(strip (v30 1)),(.sl false (n9 [[(.int .i64 31)],[(.int .i64 28)],[(.int .i64 31)],[(.int .i64 30)],[(.int .i64 31)],[(.int .i64 30)],[(.int .i64 31)],[(.int .i64 31)],[(.int .i64 30)],[(.int .i64 31)],[(.int .i64 30)],[(.int .i64 31)]]))],r28.2.2)):Option (Nat × List V × VH))).bind fun r41 =>
 G0 r41.1 [
 y8 1 r41.2.1 fun v42 =>
 some ((v42 0),r41.2.2),
 y8 2 r41.2.1 fun v43 =>
 (b7 (.int .i64) .sub (v43 0) (.int .i64 1)).bind fun x46 =>
 (A6 1 (strip (v43 1)) x46).bind fun x47 =>
 (B2 o6 false false 1 x47 r41.2.2).bind fun r49 =>
 some (r49.1,r49.2)]]:=(j8 vb _ _ _ rfl).trans (by kernel_rfl)
theorem anY (a0:V) (H:VH):cv acz [a0] H =
 (b7 (.int .i64) .rem a0 (.int .i64 4)).bind fun x2 =>
 (b7 (.int .i64) .eql x2 (.int .i64 0)).bind fun x3 =>
 o7 x3 (
 (b7 (.int .i64) .rem (strip a0) (.int .i64 100)).bind fun x6 =>
 (b7 (.int .i64) .neq x6 (.int .i64 0)).bind fun x7 =>
 o7 x7 (
 some ((.bool true),H)) (
 (b7 (.int .i64) .rem (strip (strip a0)) (.int .i64 400)).bind fun x13 =>
 (b7 (.int .i64) .eql x13 (.int .i64 0)).bind fun x14 =>
 some (x14,H))) (
 some ((.bool false),H)):=(j8 vb _ _ _ rfl).trans (by kernel_rfl)
theorem amK (a0 a1:V) (H:VH):cv ab3 [a0,a1] H =
 (C9 7 a1).bind fun c1 =>
 (cv Q4 [(strip a0),(.int .i64 24)] H).bind fun r5 =>
 (b7 (.int .i64) .eql r5.1 (.int .i64 0)).bind fun x6 =>
 l6 x6 (
 (cv F9 [(strip (strip a0)),(.sl false (n9 [[(.int .i64 0)],[(.int .i64 31)],[(.int .i64 32)],[(.int .i64 29)],[(.int .i64 30)]]))] r5.2).bind fun r11 =>
 (A8 r11.1).bind fun y14 =>
 some ((.agg [(strip (c1.getD 0 .c9)),(strip (c1.getD 1 .c9)),(strip y14),(strip (c1.getD 3 .c9)),(strip (c1.getD 4 .c9)),(strip (c1.getD 5 .c9)),(strip (c1.getD 6 .c9))]),r11.2)) (
 (b7 (.int .i64) .eql r5.1 (.int .i64 1)).bind fun x17 =>
 l6 x17 (
 (cv F9 [(strip (strip a0)),(.sl false (n9 [[(.int .i64 0)],[(.int .i64 13)],[(.int .i64 2)]]))] r5.2).bind fun r22 =>
 (A8 r22.1).bind fun y25 =>
 some ((.agg [(strip (c1.getD 0 .c9)),(strip y25),(strip (c1.getD 2 .c9)),(strip (c1.getD 3 .c9)),(strip (c1.getD 4 .c9)),(strip (c1.getD 5 .c9)),(strip (c1.getD 6 .c9))]),r22.2)) (
 (b7 (.int .i64) .eql r5.1 (.int .i64 2)).bind fun x28 =>
 l6 x28 (
 (cv F9 [(strip (strip a0)),(.sl false (n9 [[(.int .i64 1969)],[(.int .i64 2100)],[(.int .i64 1970)],[(.int .i64 2099)]]))] r5.2).bind fun r33 =>
 (A8 r33.1).bind fun y36 =>
 some ((.agg [(strip y36),(strip (c1.getD 1 .c9)),(strip (c1.getD 2 .c9)),(strip (c1.getD 3 .c9)),(strip (c1.getD 4 .c9)),(strip (c1.getD 5 .c9)),(strip (c1.getD 6 .c9))]),r33.2)) (
 (b7 (.int .i64) .eql r5.1 (.int .i64 3)).bind fun x39 =>
 l6 x39 (
 (cv F9 [(strip (strip a0)),(.sl false (n9 [[(.int .i64 24)],[(.int .i64 (-1))],[(.int .i64 0)],[(.int .i64 23)]]))] r5.2).bind fun r44 =>
 (A8 r44.1).bind fun y47 =>
 some ((.agg [(strip (c1.getD 0 .c9)),(strip (c1.getD 1 .c9)),(strip (c1.getD 2 .c9)),(strip y47),(strip (c1.getD 4 .c9)),(strip (c1.getD 5 .c9)),(strip (c1.getD 6 .c9))]),r44.2)) (
 (b7 (.int .i64) .eql r5.1 (.int .i64 4)).bind fun x50 =>
 l6 x50 (
 (cv F9 [(strip (strip a0)),(.sl false (n9 [[(.int .i64 (-721))],[(.int .i64 841)],[(.int .i64 840)]]))] r5.2).bind fun r55 =>
 (A8 r55.1).bind fun y58 =>
 some ((.agg [(strip (c1.getD 0 .c9)),(strip (c1.getD 1 .c9)),(strip (c1.getD 2 .c9)),(strip (c1.getD 3 .c9)),(strip (c1.getD 4 .c9)),(strip (c1.getD 5 .c9)),(strip y58)]),r55.2)) (
 (b7 (.int .i64) .eql r5.1 (.int .i64 5)).bind fun x61 =>
 l6 x61 (
 (cv F9 [(strip (strip a0)),(.sl false (n9 [[(.int .i64 60)],[(.int .i64 (-1))]]))] r5.2).bind fun r66 =>
 (A8 r66.1).bind fun y69 =>
 some ((.agg [(strip (c1.getD 0 .c9)),(strip (c1.getD 1 .c9)),(strip (c1.getD 2 .c9)),(strip (c1.getD 3 .c9)),(strip (c1.getD 4 .c9)),(strip y69),(strip (c1.getD 6 .c9))]),r66.2)) (
 some ((.agg [(strip (c1.getD 0 .c9)),(strip (c1.getD 1 .c9)),(strip (c1.getD 2 .c9)),(strip (c1.getD 3 .c9)),(strip (c1.getD 4 .c9)),(strip (c1.getD 5 .c9)),(strip (c1.getD 6 .c9))]),r5.2))))))):=(j8 vb _ _ _ rfl).trans (by kernel_rfl)
theorem aj6 (a0:V) (H:VH):cv V6 [a0] H =
 (C9 7 a0).bind fun c1 =>
 (qc L7 [(j6 H (.agg [(strip (c1.getD 0 .c9)),(strip (c1.getD 1 .c9)),(strip (c1.getD 2 .c9)),(strip (c1.getD 3 .c9)),(strip (c1.getD 4 .c9)),(strip (c1.getD 5 .c9)),(strip (c1.getD 6 .c9))]))]).bind fun x4 =>
 (D7 .not x4).bind fun x5 =>
 l6 x5 (
 some ((.str []),H)) (
 (id (
 (b7 (.int .i64) .lss (strip (c1.getD 6 .c9)) (.int .i64 0)).bind fun x12 =>
 l6 x12 (
 (D7 .neg (strip (strip (c1.getD 6 .c9)))).bind fun x14 =>
 some (0,[(.str [32,45]),x14,(c1.getD 0 .c9),(c1.getD 1 .c9),(c1.getD 2 .c9),(c1.getD 3 .c9),(c1.getD 4 .c9),(c1.getD 5 .c9),(c1.getD 6 .c9)],H)) (
 some (0,[(.str [32,43]),(strip (strip (c1.getD 6 .c9))),(c1.getD 0 .c9),(c1.getD 1 .c9),(c1.getD 2 .c9),(c1.getD 3 .c9),(c1.getD 4 .c9),(c1.getD 5 .c9),(c1.getD 6 .c9)],H)):Option (Nat × List V × VH))).bind fun r17 =>
 G0 r17.1 [
 y8 9 r17.2.1 fun v18 =>
 (qc aa5 [(j6 r17.2.2 (.agg [(strip (v18 2)),(strip (v18 3)),(strip (v18 4)),(strip (v18 5)),(strip (v18 6)),(strip (v18 7)),(strip (v18 8))]))]).bind fun x20 =>
 (b7 .str .add x20 (.str [44,32])).bind fun x21 =>
 (qc B6 [(j6 r17.2.2 (strip (v18 4))),(j6 r17.2.2 (.int .i64 1))]).bind fun x24 =>
 (b7 .str .add x21 x24).bind fun x25 =>
 (b7 .str .add x25 (.str [32])).bind fun x26 =>
 (b7 (.int .i64) .sub (strip (v18 3)) (.int .i64 1)).bind fun x29 =>
 (X9 12 1 (.gp 0 0) x29).bind fun x30 =>
 (B2 o6 false false 1 x30 r17.2.2).bind fun r32 =>
 (b7 .str .add x26 r32.1).bind fun x33 =>
 (b7 .str .add x33 (.str [32])).bind fun x34 =>
 (qc B6 [(j6 r32.2 (strip (v18 2))),(j6 r32.2 (.int .i64 4))]).bind fun x37 =>
 (b7 .str .add x34 x37).bind fun x38 =>
 (b7 .str .add x38 (.str [32])).bind fun x39 =>
 (qc B6 [(j6 r32.2 (strip (v18 5))),(j6 r32.2 (.int .i64 2))]).bind fun x42 =>
 (b7 .str .add x39 x42).bind fun x43 =>
 (b7 .str .add x43 (.str [58])).bind fun x44 =>
 (qc B6 [(j6 r32.2 (strip (v18 6))),(j6 r32.2 (.int .i64 2))]).bind fun x47 =>
 (b7 .str .add x44 x47).bind fun x48 =>
 (b7 .str .add x48 (.str [58])).bind fun x49 =>
 (qc B6 [(j6 r32.2 (strip (v18 7))),(j6 r32.2 (.int .i64 2))]).bind fun x52 =>
 (b7 .str .add x49 x52).bind fun x53 =>
 (b7 .str .add x53 (v18 0)).bind fun x55 =>
 (b7 (.int .i64) .quo (v18 1) (.int .i64 60)).bind fun x57 =>
 (qc B6 [(j6 r32.2 x57),(j6 r32.2 (.int .i64 2))]).bind fun x58 =>
 (b7 .str .add x55 x58).bind fun x59 =>
 (b7 (.int .i64) .rem (strip (v18 1)) (.int .i64 60)).bind fun x61 =>
 (qc B6 [(j6 r32.2 x61),(j6 r32.2 (.int .i64 2))]).bind fun x62 =>
 (b7 .str .add x59 x62).bind fun x63 =>
 some (x63,r32.2)]):=(j8 vb _ _ _ rfl).trans (by kernel_rfl)
theorem akY (a0:V) (H:VH):cv L7 [a0] H =
 (C9 7 a0).bind fun c1 =>
 (qc aac [(j6 H (strip (c1.getD 0 .c9))),(j6 H (strip (c1.getD 1 .c9)))]).bind fun x9 =>
 (qc H4 [(j6 H (strip (c1.getD 2 .c9))),(j6 H (.int .i64 1)),(j6 H x9)]).bind fun x10 =>
 o7 x10 (
 (qc H4 [(j6 H (strip (c1.getD 3 .c9))),(j6 H (.int .i64 0)),(j6 H (.int .i64 23))]).bind fun x14 =>
 o7 x14 (
 (qc H4 [(j6 H (strip (c1.getD 4 .c9))),(j6 H (.int .i64 0)),(j6 H (.int .i64 59))]).bind fun x19 =>
 o7 x19 (
 (qc H4 [(j6 H (strip (c1.getD 5 .c9))),(j6 H (.int .i64 0)),(j6 H (.int .i64 59))]).bind fun x24 =>
 o7 x24 (
 (qc acS [(j6 H (strip (c1.getD 6 .c9)))]).bind fun x29 =>
 o7 x29 (
 (qc abx [(j6 H (.agg [(strip (c1.getD 0 .c9)),(strip (c1.getD 1 .c9)),(strip (c1.getD 2 .c9)),(strip (c1.getD 3 .c9)),(strip (c1.getD 4 .c9)),(strip (c1.getD 5 .c9)),(strip (c1.getD 6 .c9))]))]).bind fun x33 =>
 (qc H4 [(j6 H x33),(j6 H (.int .i64 0)),(j6 H (.int .i64 4102444799))]).bind fun x34 =>
 some (x34,H)) (
 some ((.bool false),H))) (
 some ((.bool false),H))) (
 some ((.bool false),H))) (
 some ((.bool false),H))) (
 some ((.bool false),H)):=(j8 vb _ _ _ rfl).trans (by kernel_rfl)
theorem aoR (a0 a1:V) (H:VH):cv aac [a0,a1] H =
 (id (
 (b7 (.int .i64) .lss a0 (.int .i64 1970)).bind fun x2 =>
 o7 x2 (
 some (0,[(.int .i64 0)],H)) (
 (b7 (.int .i64) .gtr (strip a0) (.int .i64 2099)).bind fun x7 =>
 l6 x7 (
 some (0,[(.int .i64 0)],H)) (
 some (1,[(strip (strip a0)),a1],H))):Option (Nat × List V × VH))).bind fun r10 =>
 G0 r10.1 [
 y8 1 r10.2.1 fun v11 =>
 some ((v11 0),r10.2.2),
 y8 2 r10.2.1 fun v12 =>
 (id (
 (b7 (.int .i64) .eql (v12 1) (.int .i64 1)).bind fun x14 =>
 l6 x14 (
 some (0,[(v12 0),(v12 1),x14],r10.2.2)) (
 (b7 (.int .i64) .eql (v12 1) (.int .i64 3)).bind fun x16 =>
 l6 x16 (
 some (0,[(v12 0),(v12 1),x16],r10.2.2)) (
 (b7 (.int .i64) .eql (v12 1) (.int .i64 5)).bind fun x18 =>
 l6 x18 (
 some (0,[(v12 0),(v12 1),x18],r10.2.2)) (
 (b7 (.int .i64) .eql (v12 1) (.int .i64 7)).bind fun x20 =>
 l6 x20 (
 some (0,[(v12 0),(v12 1),x20],r10.2.2)) (
 (b7 (.int .i64) .eql (v12 1) (.int .i64 8)).bind fun x22 =>
 l6 x22 (
 some (0,[(v12 0),(v12 1),x22],r10.2.2)) (
 (b7 (.int .i64) .eql (v12 1) (.int .i64 10)).bind fun x24 =>
 l6 x24 (
 some (0,[(v12 0),(v12 1),x24],r10.2.2)) (
 (b7 (.int .i64) .eql (v12 1) (.int .i64 12)).bind fun x26 =>
 some (0,[(v12 0),(v12 1),x26],r10.2.2))))))):Option (Nat × List V × VH))).bind fun r28 =>
 G0 r28.1 [
 y8 3 r28.2.1 fun v29 =>
 l6 (v29 2) (
 some ((.int .i64 31),r28.2.2)) (
 (id (
 (b7 (.int .i64) .eql (v29 1) (.int .i64 4)).bind fun x31 =>
 l6 x31 (
 some (0,[(v29 0),(v29 1),x31],r28.2.2)) (
 (b7 (.int .i64) .eql (v29 1) (.int .i64 6)).bind fun x33 =>
 l6 x33 (
 some (0,[(v29 0),(v29 1),x33],r28.2.2)) (
 (b7 (.int .i64) .eql (v29 1) (.int .i64 9)).bind fun x35 =>
 l6 x35 (
 some (0,[(v29 0),(v29 1),x35],r28.2.2)) (
 (b7 (.int .i64) .eql (v29 1) (.int .i64 11)).bind fun x37 =>
 some (0,[(v29 0),(v29 1),x37],r28.2.2)))):Option (Nat × List V × VH))).bind fun r39 =>
 G0 r39.1 [
 y8 3 r39.2.1 fun v40 =>
 l6 (v40 2) (
 some ((.int .i64 30),r39.2.2)) (
 (b7 (.int .i64) .eql (v40 1) (.int .i64 2)).bind fun x42 =>
 l6 x42 (
 (b7 (.int .i64) .rem (v40 0) (.int .i64 4)).bind fun x45 =>
 (b7 (.int .i64) .eql x45 (.int .i64 0)).bind fun x46 =>
 o7 x46 (
 (b7 (.int .i64) .rem (strip (v40 0)) (.int .i64 100)).bind fun x49 =>
 (b7 (.int .i64) .neq x49 (.int .i64 0)).bind fun x50 =>
 o7 x50 (
 some ((.int .i64 29),r39.2.2)) (
 (b7 (.int .i64) .rem (strip (strip (v40 0))) (.int .i64 400)).bind fun x56 =>
 (b7 (.int .i64) .eql x56 (.int .i64 0)).bind fun x57 =>
 l6 x57 (
 some ((.int .i64 29),r39.2.2)) (
 some ((.int .i64 28),r39.2.2)))) (
 (b7 (.int .i64) .rem (strip (v40 0)) (.int .i64 400)).bind fun x64 =>
 (b7 (.int .i64) .eql x64 (.int .i64 0)).bind fun x65 =>
 l6 x65 (
 some ((.int .i64 29),r39.2.2)) (
 some ((.int .i64 28),r39.2.2)))) (
 some ((.int .i64 0),r39.2.2)))])]]:=(j8 vb _ _ _ rfl).trans (by kernel_rfl)
theorem am1 (a0 a1 a2:V) (H:VH):cv H4 [a0,a1,a2] H =
 (b7 (.int .i64) .geq a0 a1).bind fun x3 =>
 o7 x3 (
 (b7 (.int .i64) .leq (strip a0) a2).bind fun x7 =>
 some (x7,H)) (
 some ((.bool false),H)):=(j8 vb _ _ _ rfl).trans (by kernel_rfl)
theorem aot (a0:V) (H:VH):cv acS [a0] H =
 (qc H4 [(j6 H a0),(j6 H (.int .i64 (-720))),(j6 H (.int .i64 840))]).bind fun x2 =>
 some (x2,H):=(j8 vb _ _ _ rfl).trans (by kernel_rfl)
theorem aie (a0:V) (H:VH):cv abx [a0] H =
 (C9 7 a0).bind fun c1 =>
 (qc V4 [(j6 H (strip (c1.getD 0 .c9))),(j6 H (strip (c1.getD 1 .c9))),(j6 H (strip (c1.getD 2 .c9)))]).bind fun x9 =>
 (b7 (.int .i64) .mul x9 (.int .i64 86400)).bind fun x10 =>
 (b7 (.int .i64) .mul (strip (c1.getD 3 .c9)) (.int .i64 3600)).bind fun x13 =>
 (b7 (.int .i64) .add x10 x13).bind fun x14 =>
 (b7 (.int .i64) .mul (strip (c1.getD 4 .c9)) (.int .i64 60)).bind fun x17 =>
 (b7 (.int .i64) .add x14 x17).bind fun x18 =>
 (b7 (.int .i64) .add x18 (strip (c1.getD 5 .c9))).bind fun x21 =>
 (b7 (.int .i64) .mul (strip (c1.getD 6 .c9)) (.int .i64 60)).bind fun x24 =>
 (b7 (.int .i64) .sub x21 x24).bind fun x25 =>
 some (x25,H):=(j8 vb _ _ _ rfl).trans (by kernel_rfl)
noncomputable def acm:List V->VH->Option (Option Nat × List V × VH):=I4 (vb.ctx cv z8) (vb.b.M7 43) (vb.F7 43) ⟨⟨[0,1,7,8,9],[],[]⟩,[(.exit 2,⟨[0,1,7,8],[],[]⟩)]⟩ (I5 Tryz.f43 6)
noncomputable def ae6:List V->VH->Option (Option Nat × List V × VH):=I4 (vb.ctx cv z8) (vb.b.M7 43) (vb.F7 43) ⟨⟨[0,1,7,8],[],[]⟩,[(.exit 0,⟨[7],[],[]⟩)]⟩ (I5 Tryz.f43 3)
theorem ahB (v0 v1 v2 v3 v4:V) (H:VH):acm [v0,v1,v2,v3,v4] H =
 (id (
 (b7 (.int .i64) .leq v4 (.int .i64 12)).bind fun x10 =>
 o7 x10 (
 (b7 (.int .i64) .lss v3 v0).bind fun x14 =>
 o7 x14 (
 some (0,[(strip v0),v1,v2,(strip v3),(strip v4)],H)) (
 (b7 (.int .i64) .lss (strip v4) v1).bind fun x20 =>
 l6 x20 (
 some (0,[(strip v0),(strip v1),v2,(strip v3),(strip (strip v4))],H)) (
 some (1,[(strip v0),(strip v1),v2,(strip v3)],H)))) (
 some (1,[v0,v1,v2,v3],H)):Option (Nat × List V × VH))).bind fun r24 =>
 G0 r24.1 [
 y8 5 r24.2.1 fun v25 =>
 (qc aac [(j6 r24.2.2 (v25 3)),(j6 r24.2.2 (v25 4))]).bind fun x29 =>
 (b7 (.int .i64) .add (v25 2) x29).bind fun x30 =>
 (b7 (.int .i64) .add (strip (v25 4)) (.int .i64 1)).bind fun x33 =>
 some (none,[(v25 0),(v25 1),x30,(strip (v25 3)),x33],r24.2.2),
 y8 4 r24.2.1 fun v35 =>
 some (some 0,[(v35 0),(v35 1),(v35 2),(v35 3)],r24.2.2)]:=by kernel_rfl
theorem ahD (v0 v1 v2 v3:V) (H:VH):ae6 [v0,v1,v2,v3] H =
 (b7 (.int .i64) .leq v3 v0).bind fun x7 =>
 l6 x7 (
 (z8 acm [(strip v0),v1,v2,(strip v3),(.int .i64 1)] H).bind fun r36 =>
 G0 r36.1 [
 y8 4 r36.2.1 fun v37 =>
 (b7 (.int .i64) .add (v37 3) (.int .i64 1)).bind fun x39 =>
 some (none,[(v37 0),(v37 1),(v37 2),x39],r36.2.2)]) (
 some (some 0,[v2],H)):=by kernel_rfl
theorem akb (a0 a1 a2:V) (H:VH):cv V4 [a0,a1,a2] H =
 (b7 (.int .i64) .sub a2 (.int .i64 1)).bind fun x2 =>
 (z8 ae6 [a0,a1,x2,(.int .i64 1970)] H).bind fun r41 =>
 G0 r41.1 [
 y8 1 r41.2.1 fun v42 =>
 some ((v42 0),r41.2.2)]:=(j8 vb _ _ _ rfl).trans (by kernel_rfl)
theorem ak6 (a0:V) (H:VH):cv aa5 [a0] H =
 (C9 7 a0).bind fun c1 =>
 (qc L7 [(j6 H (.agg [(strip (c1.getD 0 .c9)),(strip (c1.getD 1 .c9)),(strip (c1.getD 2 .c9)),(strip (c1.getD 3 .c9)),(strip (c1.getD 4 .c9)),(strip (c1.getD 5 .c9)),(strip (c1.getD 6 .c9))]))]).bind fun x4 =>
 (D7 .not x4).bind fun x5 =>
 l6 x5 (
 some ((.str []),H)) (
 (qc V4 [(j6 H (strip (c1.getD 0 .c9))),(j6 H (strip (c1.getD 1 .c9))),(j6 H (strip (c1.getD 2 .c9)))]).bind fun x14 =>
 (b7 (.int .i64) .rem x14 (.int .i64 7)).bind fun x15 =>
 (agp 7 1 (.agg [(.str [84,104,117]),(.str [70,114,105]),(.str [83,97,116]),(.str [83,117,110]),(.str [77,111,110]),(.str [84,117,101]),(.str [87,101,100])]) x15).bind fun x16 =>
 some (x16,H)):=(j8 vb _ _ _ rfl).trans (by kernel_rfl)
noncomputable def agZ:List V->VH->Option (Option Nat × List V × VH):=I4 (vb.ctx cv z8) (vb.b.M7 17) (vb.F7 17) ⟨⟨[0,1,5],[],[]⟩,[(.exit 0,⟨[5],[],[]⟩)]⟩ (I5 Tryz.f17 2)
theorem aj3 (v0 v1 v2:V) (H:VH):agZ [v0,v1,v2] H =
 (id (
 (b7 (.int .i64) .gtr v0 (.int .i64 0)).bind fun x3 =>
 o7 x3 (
 some (0,[(strip v0),v1,v2],H)) (
 (b7 (.int .i64) .gtr v1 (.int .i64 0)).bind fun x7 =>
 l6 x7 (
 some (0,[(strip v0),(strip v1),v2],H)) (
 some (1,[v2],H))):Option (Nat × List V × VH))).bind fun r9 =>
 G0 r9.1 [
 y8 3 r9.2.1 fun v10 =>
 (b7 (.int .i64) .rem (v10 0) (.int .i64 10)).bind fun x12 =>
 (b7 (.int .i64) .rem (strip (v10 0)) (.int .i64 10)).bind fun x14 =>
 (b7 (.int .i64) .add x14 (.int .i64 1)).bind fun x15 =>
 (H5 (.str [48,49,50,51,52,53,54,55,56,57]) (some x12) (some x15)).bind fun x16 =>
 (b7 .str .add x16 (v10 2)).bind fun x18 =>
 (b7 (.int .i64) .quo (strip (strip (v10 0))) (.int .i64 10)).bind fun x21 =>
 (b7 (.int .i64) .sub (v10 1) (.int .i64 1)).bind fun x24 =>
 some (none,[x21,x24,x18],r9.2.2),
 y8 1 r9.2.1 fun v26 =>
 some (some 0,[(v26 0)],r9.2.2)]:=by kernel_rfl
theorem ano (a0 a1:V) (H:VH):cv B6 [a0,a1] H =
 (z8 agZ [a0,a1,(.str [])] H).bind fun r27 =>
 G0 r27.1 [
 y8 1 r27.2.1 fun v28 =>
 some ((v28 0),r27.2.2)]:=(j8 vb _ _ _ rfl).trans (by kernel_rfl)
theorem akg (a0:V) (H:VH):cv W2 [a0] H =
 (C9 7 a0).bind fun c1 =>
 (qc aa6 [(j6 H (.agg [(strip (c1.getD 0 .c9)),(strip (c1.getD 1 .c9)),(strip (c1.getD 2 .c9)),(strip (c1.getD 3 .c9)),(strip (c1.getD 4 .c9)),(strip (c1.getD 5 .c9)),(strip (c1.getD 6 .c9))]))]).bind fun x4 =>
 (D7 .not x4).bind fun x5 =>
 l6 x5 (
 some ((.str []),H)) (
 (id (
 (b7 (.int .i64) .lss (strip (c1.getD 6 .c9)) (.int .i64 0)).bind fun x12 =>
 l6 x12 (
 (D7 .neg (strip (strip (c1.getD 6 .c9)))).bind fun x15 =>
 some (0,[(.str [45]),x15,(c1.getD 0 .c9),(c1.getD 1 .c9),(c1.getD 2 .c9),(c1.getD 3 .c9),(c1.getD 4 .c9),(c1.getD 5 .c9),(c1.getD 6 .c9)],H)) (
 some (0,[(.str [43]),(strip (strip (c1.getD 6 .c9))),(c1.getD 0 .c9),(c1.getD 1 .c9),(c1.getD 2 .c9),(c1.getD 3 .c9),(c1.getD 4 .c9),(c1.getD 5 .c9),(c1.getD 6 .c9)],H)):Option (Nat × List V × VH))).bind fun r17 =>
 G0 r17.1 [
 y8 9 r17.2.1 fun v18 =>
 (qc ac1 [(j6 r17.2.2 (.agg [(strip (v18 2)),(strip (v18 3)),(strip (v18 4)),(strip (v18 5)),(strip (v18 6)),(strip (v18 7)),(strip (v18 8))]))]).bind fun x20 =>
 (b7 .str .add x20 (.str [44,32])).bind fun x21 =>
 (qc Q5 [(j6 r17.2.2 (strip (v18 4)))]).bind fun x24 =>
 (b7 .str .add x21 x24).bind fun x25 =>
 (b7 .str .add x25 (.str [32])).bind fun x26 =>
 (pc adK []).bind fun x27 =>
 (b7 (.int .i64) .sub (strip (v18 3)) (.int .i64 1)).bind fun x30 =>
 (A6 1 x27 x30).bind fun x31 =>
 (B2 o6 false false 1 x31 r17.2.2).bind fun r33 =>
 (b7 .str .add x26 r33.1).bind fun x34 =>
 (b7 .str .add x34 (.str [32])).bind fun x35 =>
 (qc Q5 [(j6 r33.2 (strip (v18 2)))]).bind fun x38 =>
 (b7 .str .add x35 x38).bind fun x39 =>
 (b7 .str .add x39 (.str [32])).bind fun x40 =>
 (qc X1 [(j6 r33.2 (strip (v18 5)))]).bind fun x43 =>
 (b7 .str .add x40 x43).bind fun x44 =>
 (b7 .str .add x44 (.str [58])).bind fun x45 =>
 (qc X1 [(j6 r33.2 (strip (v18 6)))]).bind fun x48 =>
 (b7 .str .add x45 x48).bind fun x49 =>
 (b7 .str .add x49 (.str [58])).bind fun x50 =>
 (qc X1 [(j6 r33.2 (strip (v18 7)))]).bind fun x53 =>
 (b7 .str .add x50 x53).bind fun x54 =>
 (b7 .str .add x54 (.str [32])).bind fun x55 =>
 (b7 .str .add x55 (v18 0)).bind fun x57 =>
 (b7 (.int .i64) .quo (v18 1) (.int .i64 60)).bind fun x59 =>
 (qc X1 [(j6 r33.2 x59)]).bind fun x60 =>
 (b7 .str .add x57 x60).bind fun x61 =>
 (b7 (.int .i64) .rem (strip (v18 1)) (.int .i64 60)).bind fun x63 =>
 (qc X1 [(j6 r33.2 x63)]).bind fun x64 =>
 (b7 .str .add x61 x64).bind fun x65 =>
 some (x65,r33.2)]):=(j8 vb _ _ _ rfl).trans (by kernel_rfl)
theorem ak7 (a0:V) (H:VH):cv aa6 [a0] H =
 (C9 7 a0).bind fun c1 =>
 (qc adp [(j6 H (.agg [(strip (c1.getD 0 .c9)),(strip (c1.getD 1 .c9)),(strip (c1.getD 2 .c9)),(strip (c1.getD 3 .c9)),(strip (c1.getD 4 .c9)),(strip (c1.getD 5 .c9)),(strip (c1.getD 6 .c9))]))]).bind fun x4 =>
 (D7 .not x4).bind fun x5 =>
 l6 x5 (
 some ((.bool false),H)) (
 (qc X5 [(j6 H (.agg [(strip (c1.getD 0 .c9)),(strip (c1.getD 1 .c9)),(strip (c1.getD 2 .c9)),(strip (c1.getD 3 .c9)),(strip (c1.getD 4 .c9)),(strip (c1.getD 5 .c9)),(strip (c1.getD 6 .c9))]))]).bind fun x8 =>
 (b7 (.int .i64) .geq x8 (.int .i64 0)).bind fun x11 =>
 o7 x11 (
 (b7 (.int .i64) .lss (strip x8) (.int .i64 4102444800)).bind fun x14 =>
 some (x14,H)) (
 some ((.bool false),H))):=(j8 vb _ _ _ rfl).trans (by kernel_rfl)
theorem amb (a0:V) (H:VH):cv adp [a0] H =
 (C9 7 a0).bind fun c1 =>
 (b7 (.int .i64) .geq (strip (c1.getD 2 .c9)) (.int .i64 1)).bind fun x5 =>
 o7 x5 (
 (qc aad [(j6 H (strip (c1.getD 0 .c9))),(j6 H (strip (c1.getD 1 .c9)))]).bind fun x13 =>
 (b7 (.int .i64) .leq (strip (c1.getD 2 .c9)) x13).bind fun x14 =>
 o7 x14 (
 (b7 (.int .i64) .geq (strip (c1.getD 3 .c9)) (.int .i64 0)).bind fun x19 =>
 o7 x19 (
 (b7 (.int .i64) .leq (strip (c1.getD 3 .c9)) (.int .i64 23)).bind fun x24 =>
 o7 x24 (
 (b7 (.int .i64) .geq (strip (c1.getD 4 .c9)) (.int .i64 0)).bind fun x29 =>
 o7 x29 (
 (b7 (.int .i64) .leq (strip (c1.getD 4 .c9)) (.int .i64 59)).bind fun x34 =>
 o7 x34 (
 (b7 (.int .i64) .geq (strip (c1.getD 5 .c9)) (.int .i64 0)).bind fun x39 =>
 o7 x39 (
 (b7 (.int .i64) .leq (strip (c1.getD 5 .c9)) (.int .i64 59)).bind fun x44 =>
 o7 x44 (
 (qc acx [(j6 H (strip (c1.getD 6 .c9)))]).bind fun x49 =>
 some (x49,H)) (
 some ((.bool false),H))) (
 some ((.bool false),H))) (
 some ((.bool false),H))) (
 some ((.bool false),H))) (
 some ((.bool false),H))) (
 some ((.bool false),H))) (
 some ((.bool false),H))) (
 some ((.bool false),H)):=(j8 vb _ _ _ rfl).trans (by kernel_rfl)
noncomputable def afD:List V->VH->Option (Option Nat × List V × VH):=I4 (vb.ctx cv z8) (vb.b.M7 45) (vb.F7 45) ⟨⟨[3,4],[(1,(1,0))],[(1,7)]⟩,[(.exit 0,⟨[3],[(1,(1,0))],[(1,7)]⟩)]⟩ (I5 Tryz.f45 3)
noncomputable def afE:List V->VH->Option (Option Nat × List V × VH):=I4 (vb.ctx cv z8) (vb.b.M7 45) (vb.F7 45) ⟨⟨[3,5],[(1,(1,0))],[(1,7)]⟩,[(.exit 2,⟨[3],[(1,(1,0))],[(1,7)]⟩)]⟩ (I5 Tryz.f45 9)
theorem ai4 (v0 v1 v2 v3 v4 v5 v6 v7 v8:V) (H:VH):afD [v0,v1,v2,v3,v4,v5,v6,v7,v8] H =
 (b7 (.int .i64) .lss v1 (strip v2)).bind fun x11 =>
 l6 x11 (
 (id (
 (b7 (.int .i64) .add v0 (.int .i64 365)).bind fun x13 =>
 (qc acz [(j6 H (strip v1))]).bind fun x16 =>
 l6 x16 (
 (b7 (.int .i64) .add x13 (.int .i64 1)).bind fun x18 =>
 some (0,[x18,(strip (strip v1)),v2,v3,v4,v5,v6,v7,v8],H)) (
 some (0,[x13,(strip (strip v1)),v2,v3,v4,v5,v6,v7,v8],H)):Option (Nat × List V × VH))).bind fun r20 =>
 G0 r20.1 [
 y8 9 r20.2.1 fun v21 =>
 (b7 (.int .i64) .add (v21 1) (.int .i64 1)).bind fun x23 =>
 some (none,[(v21 0),x23,(v21 2),(v21 3),(v21 4),(v21 5),(v21 6),(v21 7),(v21 8)],r20.2.2)]) (
 some (some 0,[v0,v2,v3,v4,v5,v6,v7,v8],H)):=by kernel_rfl
theorem aiR (v0 v1 v2 v3 v4 v5 v6 v7 v8:V) (H:VH):afE [v0,v1,v2,v3,v4,v5,v6,v7,v8] H =
 (b7 (.int .i64) .lss v1 (strip v3)).bind fun x31 =>
 l6 x31 (
 (qc aad [(j6 H (strip v2)),(j6 H (strip v1))]).bind fun x36 =>
 (b7 (.int .i64) .add v0 x36).bind fun x37 =>
 (b7 (.int .i64) .add (strip (strip v1)) (.int .i64 1)).bind fun x40 =>
 some (none,[x37,x40,v2,v3,v4,v5,v6,v7,v8],H)) (
 some (some 0,[v0,v2,v3,v4,v5,v6,v7,v8],H)):=by kernel_rfl
theorem ak5 (a0:V) (H:VH):cv X5 [a0] H =
 (C9 7 a0).bind fun c1 =>
 (b7 (.int .i64) .sub (strip (c1.getD 2 .c9)) (.int .i64 1)).bind fun x5 =>
 (z8 afD [x5,(.int .i64 1970),(c1.getD 0 .c9),(c1.getD 1 .c9),(c1.getD 2 .c9),(c1.getD 3 .c9),(c1.getD 4 .c9),(c1.getD 5 .c9),(c1.getD 6 .c9)] H).bind fun r25 =>
 G0 r25.1 [
 y8 8 r25.2.1 fun v26 =>
 (z8 afE [(v26 0),(.int .i64 1),(v26 1),(v26 2),(v26 3),(v26 4),(v26 5),(v26 6),(v26 7)] r25.2.2).bind fun r42 =>
 G0 r42.1 [
 y8 8 r42.2.1 fun v43 =>
 (b7 (.int .i64) .mul (v43 0) (.int .i64 86400)).bind fun x45 =>
 (b7 (.int .i64) .mul (strip (v43 4)) (.int .i64 3600)).bind fun x48 =>
 (b7 (.int .i64) .add x45 x48).bind fun x49 =>
 (b7 (.int .i64) .mul (strip (v43 5)) (.int .i64 60)).bind fun x52 =>
 (b7 (.int .i64) .add x49 x52).bind fun x53 =>
 (b7 (.int .i64) .add x53 (strip (v43 6))).bind fun x56 =>
 (b7 (.int .i64) .mul (strip (v43 7)) (.int .i64 60)).bind fun x59 =>
 (b7 (.int .i64) .sub x56 x59).bind fun x60 =>
 some (x60,r42.2.2)]]:=(j8 vb _ _ _ rfl).trans (by kernel_rfl)
theorem akX (a0:V) (H:VH):cv ac1 [a0] H =
 (C9 7 a0).bind fun c1 =>
 (qc aa6 [(j6 H (.agg [(strip (c1.getD 0 .c9)),(strip (c1.getD 1 .c9)),(strip (c1.getD 2 .c9)),(strip (c1.getD 3 .c9)),(strip (c1.getD 4 .c9)),(strip (c1.getD 5 .c9)),(strip (c1.getD 6 .c9))]))]).bind fun x4 =>
 (D7 .not x4).bind fun x5 =>
 l6 x5 (
 some ((.str []),H)) (
 (qc X5 [(j6 H (.agg [(strip (c1.getD 0 .c9)),(strip (c1.getD 1 .c9)),(strip (c1.getD 2 .c9)),(strip (c1.getD 3 .c9)),(strip (c1.getD 4 .c9)),(strip (c1.getD 5 .c9)),(strip (c1.getD 6 .c9))]))]).bind fun x11 =>
 (b7 (.int .i64) .mul (strip (c1.getD 6 .c9)) (.int .i64 60)).bind fun x14 =>
 (b7 (.int .i64) .add x11 x14).bind fun x15 =>
 (b7 (.int .i64) .quo x15 (.int .i64 86400)).bind fun x16 =>
 (b7 (.int .i64) .rem x16 (.int .i64 7)).bind fun x17 =>
 (A6 1 (strip (.sl false (n9 [[(.str [84,104,117])],[(.str [70,114,105])],[(.str [83,97,116])],[(.str [83,117,110])],[(.str [77,111,110])],[(.str [84,117,101])],[(.str [87,101,100])]]))) x17).bind fun x18 =>
 (B2 o6 false false 1 x18 H).bind fun r20 =>
 some (r20.1,r20.2)):=(j8 vb _ _ _ rfl).trans (by kernel_rfl)
noncomputable def ah1:List V->VH->Option (Option Nat × List V × VH):=I4 (vb.ctx cv z8) (vb.b.M7 20) (vb.F7 20) ⟨⟨[0,3],[],[]⟩,[(.exit 0,⟨[0,3],[],[]⟩)]⟩ (I5 Tryz.f20 6)
theorem ak2 (v0 v1:V) (H:VH):ah1 [v0,v1] H =
 (b7 (.int .i64) .gtr v0 (.int .i64 9)).bind fun x13 =>
 l6 x13 (
 (b7 (.int .i64) .rem (strip v0) (.int .i64 10)).bind fun x15 =>
 (b7 (.int .i64) .add (.int .i64 48) x15).bind fun x16 =>
 (S7 .u8 x16).bind fun x17 =>
 (A8 x17).bind fun y19 =>
 (ahy (.sl true [[y19]]) H).bind fun x20 =>
 (b7 .str .add x20 v1).bind fun x22 =>
 (b7 (.int .i64) .quo (strip (strip v0)) (.int .i64 10)).bind fun x25 =>
 some (none,[x25,x22],H)) (
 some (some 0,[(strip v0),v1],H)):=by kernel_rfl
theorem aoz (a0:V) (H:VH):cv Q5 [a0] H =
 (b7 (.int .i64) .lss a0 (.int .i64 (-9223372036854775807))).bind fun x2 =>
 l6 x2 (
 some ((.str [45,57,50,50,51,51,55,50,48,51,54,56,53,52,55,55,53,56,48,56]),H)) (
 (b7 (.int .i64) .lss (strip a0) (.int .i64 0)).bind fun x5 =>
 l6 x5 (
 (D7 .neg (strip (strip a0))).bind fun x7 =>
 (qc Q5 [(j6 H x7)]).bind fun x8 =>
 (b7 .str .add (.str [45]) x8).bind fun x9 =>
 some (x9,H)) (
 (z8 ah1 [(strip (strip a0)),(.str [])] H).bind fun r27 =>
 G0 r27.1 [
 y8 2 r27.2.1 fun v28 =>
 (b7 (.int .i64) .add (.int .i64 48) (v28 0)).bind fun x30 =>
 (S7 .u8 x30).bind fun x31 =>
 (A8 x31).bind fun y33 =>
 (ahy (.sl true [[y33]]) r27.2.2).bind fun x34 =>
 (b7 .str .add x34 (v28 1)).bind fun x36 =>
 some (x36,r27.2.2)])):=(j8 vb _ _ _ rfl).trans (by kernel_rfl)
theorem alJ (H:VH):cv adK [] H =
 some ((.sl true [[(.str [74,97,110])],[(.str [70,101,98])],[(.str [77,97,114])],[(.str [65,112,114])],[(.str [77,97,121])],[(.str [74,117,110])],[(.str [74,117,108])],[(.str [65,117,103])],[(.str [83,101,112])],[(.str [79,99,116])],[(.str [78,111,118])],[(.str [68,101,99])]]),H):=(j8 vb _ _ _ rfl).trans (by kernel_rfl)
theorem apD (a0:V) (H:VH):cv X1 [a0] H =
 (b7 (.int .i64) .quo a0 (.int .i64 10)).bind fun x2 =>
 (qc Q5 [(j6 H x2)]).bind fun x3 =>
 (b7 (.int .i64) .rem (strip a0) (.int .i64 10)).bind fun x5 =>
 (qc Q5 [(j6 H x5)]).bind fun x6 =>
 (b7 .str .add x3 x6).bind fun x7 =>
 some (x7,H):=(j8 vb _ _ _ rfl).trans (by kernel_rfl)
noncomputable def afP:List V->VH->Option (Option Nat × List V × VH):=I4 (vb.ctx cv z8) (vb.b.M7 8) (vb.F7 8) ⟨⟨[3,4,12,13,14],[],[]⟩,[(.exit 0,⟨[4],[],[]⟩),(.ret,⟨[2],[],[]⟩)]⟩ (I5 Tryz.f8 5)
theorem aiB (v0 v1 v2 v3 v4:V) (H:VH):afP [v0,v1,v2,v3,v4] H =
 (b7 (.int .i64) .lss v4 v3).bind fun x15 =>
 l6 x15 (
 (A6 1 v2 (strip v4)).bind fun x17 =>
 (B2 o6 false false 1 x17 H).bind fun r19 =>
 (b7 .str .eql r19.1 (.str [])).bind fun x23 =>
 l6 x23 (
 (b7 (.int .i64) .add (strip v4) (.int .i64 1)).bind fun x24 =>
 some (none,[v0,v1,v2,v3,x24],r19.2)) (
 (id (
 (b7 (.int .i64) .geq v4 (.int .i64 200)).bind fun x27 =>
 o7 x27 (
 (b7 .str .add v1 (.str [102,117,108,108,10])).bind fun x31 =>
 some (0,[x31],r19.2)) (
 (F8 v1).bind fun x34 =>
 (b7 (.int .i64) .gtr x34 (.int .i64 40000)).bind fun x35 =>
 l6 x35 (
 (b7 .str .add (strip v1) (.str [102,117,108,108,10])).bind fun x38 =>
 some (0,[x38],r19.2)) (
 some (1,[v0,(strip v1),(strip r19.1),v2,v3,(strip v4)],r19.2))):Option (Nat × List V × VH))).bind fun r40 =>
 G0 r40.1 [
 y8 1 r40.2.1 fun v41 =>
 some (some 1,[(v41 0)],r40.2.2),
 y8 6 r40.2.1 fun v42 =>
 (cv E8 [(strip (v42 0)),(strip (v42 2))] r40.2.2).bind fun r46 =>
 (b7 .str .add (v42 1) r46.1).bind fun x47 =>
 (b7 (.int .i64) .add (v42 5) (.int .i64 1)).bind fun x49 =>
 some (none,[(v42 0),x47,(v42 3),(v42 4),x49],r46.2)])) (
 some (some 0,[v1],H)):=by kernel_rfl
theorem akW (a0:V) (H:VH):cv aaZ [a0] H =
 (F8 a0).bind fun x2 =>
 (b7 (.int .i64) .gtr x2 (.int .i64 20000)).bind fun x3 =>
 l6 x3 (
 some ((.str [108,111,110,103,10]),H)) (
 (pc ab7 []).bind fun x5 =>
 (C9 14 x5).bind fun c8 =>
 (K8 (.ptr H.length 0) [(c8.getD 0 .c9),(c8.getD 1 .c9),(c8.getD 2 .c9),(c8.getD 3 .c9),(c8.getD 4 .c9),(c8.getD 5 .c9),(c8.getD 6 .c9),(c8.getD 7 .c9),(c8.getD 8 .c9),(c8.getD 9 .c9),(c8.getD 10 .c9),(c8.getD 11 .c9),(c8.getD 12 .c9),(c8.getD 13 .c9)] (H++[[(.sl true []),(.int .i64 0),(.str []),(.str []),(.sl true []),(.sl true []),(.sl true []),(.int .i64 0),(.int .i64 0),(.int .i64 0),(.int .i64 0),(.int .i64 0),(.int .i64 0),(.int .i64 0)]])).bind fun H9 =>
 (pc J4 [(j6 H9 (strip a0)),(j6 H9 (.str [10]))]).bind fun x12 =>
 (D6 x12).bind fun x13 =>
 (z8 afP [(.ptr H.length 0),(.str []),x12,x13,(.int .i64 0)] H9).bind fun r51 =>
 G0 r51.1 [
 y8 1 r51.2.1 fun v52 =>
 some ((v52 0),r51.2.2),
 y8 1 r51.2.1 fun v55 =>
 some ((v55 0),r51.2.2)]):=(j8 vb _ _ _ rfl).trans (by kernel_rfl)
theorem amR (H:VH):cv ab7 [] H =
 (pc acE [(j6 H (.int .i64 1767593289)),(j6 H (.int .i64 60))]).bind fun x1 =>
 (C5 x1 0).bind fun x3 =>
 (C5 x1 1).bind fun x4 =>
 (C9 7 (strip x3)).bind fun c7 =>
 some ((.agg [(.sl true []),(.int .i64 0),(.str []),(.str []),(.sl true []),(.sl true []),(.sl true []),(strip (c7.getD 0 .c9)),(strip (c7.getD 1 .c9)),(strip (c7.getD 2 .c9)),(strip (c7.getD 3 .c9)),(strip (c7.getD 4 .c9)),(strip (c7.getD 5 .c9)),(strip (c7.getD 6 .c9))]),H):=(j8 vb _ _ _ rfl).trans (by kernel_rfl)
noncomputable def ahT:List V->VH->Option (Option Nat × List V × VH):=I4 (vb.ctx cv z8) (vb.b.M7 46) (vb.F7 46) ⟨⟨[7],[(4,(4,0)),(9,(9,0))],[(4,7),(9,7)]⟩,[(.exit 0,⟨[7],[(4,(4,0)),(9,(9,0))],[(4,7),(9,7)]⟩)]⟩ (I5 Tryz.f46 8)
theorem alf (v0 v1 v2 v3 v4 v5 v6 v7 v8 v9 v10 v11 v12 v13 v14:V) (H:VH):ahT [v0,v1,v2,v3,v4,v5,v6,v7,v8,v9,v10,v11,v12,v13,v14] H =
 (id (
 (b7 (.int .i64) .leq (strip v8) (.int .i64 2099)).bind fun x53 =>
 o7 x53 (
 (qc aac [(j6 H (strip v8)),(j6 H (strip v9))]).bind fun x60 =>
 (b7 (.int .i64) .geq v0 x60).bind fun x61 =>
 l6 x61 (
 some (0,[(strip v0),v1,v2,v3,v4,v5,v6,v7,v8,v9,v10,v11,v12,v13,v14],H)) (
 some (1,[(strip v0),v1,v2,v3,v4,v5,v6,v7,v8,v9,v10,v11,v12,v13,v14],H))) (
 some (1,[v0,v1,v2,v3,v4,v5,v6,v7,v8,v9,v10,v11,v12,v13,v14],H)):Option (Nat × List V × VH))).bind fun r64 =>
 G0 r64.1 [
 y8 15 r64.2.1 fun v65 =>
 (qc aac [(j6 r64.2.2 (strip (v65 8))),(j6 r64.2.2 (strip (v65 9)))]).bind fun x71 =>
 (b7 (.int .i64) .sub (v65 0) x71).bind fun x72 =>
 (b7 (.int .i64) .add (strip (v65 9)) (.int .i64 1)).bind fun x76 =>
 (A8 x76).bind fun y79 =>
 (b7 (.int .i64) .gtr (strip y79) (.int .i64 12)).bind fun x82 =>
 l6 x82 (
 (b7 (.int .i64) .add (strip (v65 8)) (.int .i64 1)).bind fun x85 =>
 (A8 x85).bind fun y88 =>
 some (none,[x72,(v65 1),(v65 2),(v65 3),(v65 4),(v65 5),(v65 6),(v65 7),y88,(.int .i64 1),(v65 10),(v65 11),(v65 12),(v65 13),(v65 14)],r64.2.2)) (
 some (none,[x72,(v65 1),(v65 2),(v65 3),(v65 4),(v65 5),(v65 6),(v65 7),(v65 8),y79,(v65 10),(v65 11),(v65 12),(v65 13),(v65 14)],r64.2.2)),
 y8 15 r64.2.1 fun v91 =>
 some (some 0,[(v91 0),(v91 1),(v91 2),(v91 3),(v91 4),(v91 5),(v91 6),(v91 7),(v91 8),(v91 9),(v91 10),(v91 11),(v91 12),(v91 13),(v91 14)],r64.2.2)]:=by kernel_rfl
theorem aoe (a0 a1:V) (H:VH):cv acE [a0,a1] H =
 (id (
 (qc H4 [(j6 H a0),(j6 H (.int .i64 0)),(j6 H (.int .i64 4102444799))]).bind fun x3 =>
 (D7 .not x3).bind fun x4 =>
 o7 x4 (
 some (0,[(.bool false),(.int .i64 0),(.int .i64 0),(.int .i64 0),(.int .i64 0),(.int .i64 0),(.int .i64 0),(.int .i64 0)],H)) (
 (qc acS [(j6 H a1)]).bind fun x11 =>
 (D7 .not x11).bind fun x12 =>
 l6 x12 (
 some (0,[(.bool false),(.int .i64 0),(.int .i64 0),(.int .i64 0),(.int .i64 0),(.int .i64 0),(.int .i64 0),(.int .i64 0)],H)) (
 some (1,[(strip a0),(strip a1),(.int .i64 0),(.int .i64 0),(.int .i64 0),(.int .i64 0),(.int .i64 0),(.int .i64 0),(.int .i64 0)],H))):Option (Nat × List V × VH))).bind fun r17 =>
 G0 r17.1 [
 y8 8 r17.2.1 fun v18 =>
 some ((.A4 [(.agg [(v18 1),(v18 2),(v18 3),(v18 4),(v18 5),(v18 6),(v18 7)]),(v18 0)]),r17.2.2),
 y8 9 r17.2.1 fun v19 =>
 (b7 (.int .i64) .mul (v19 1) (.int .i64 60)).bind fun x22 =>
 (b7 (.int .i64) .add (v19 0) x22).bind fun x23 =>
 (b7 (.int .i64) .lss x23 (.int .i64 0)).bind fun x26 =>
 l6 x26 (
 some ((.A4 [(.agg [(.int .i64 0),(.int .i64 0),(.int .i64 0),(.int .i64 0),(.int .i64 0),(.int .i64 0),(.int .i64 0)]),(.bool false)]),r17.2.2)) (
 (b7 (.int .i64) .quo (strip x23) (.int .i64 86400)).bind fun x31 =>
 (b7 (.int .i64) .rem (strip (strip x23)) (.int .i64 86400)).bind fun x33 =>
 (b7 (.int .i64) .quo x33 (.int .i64 3600)).bind fun x37 =>
 (b7 (.int .i64) .quo (strip x33) (.int .i64 60)).bind fun x39 =>
 (b7 (.int .i64) .rem x39 (.int .i64 60)).bind fun x40 =>
 (b7 (.int .i64) .rem (strip (strip x33)) (.int .i64 60)).bind fun x42 =>
 (A8 x37).bind fun y45 =>
 (A8 x40).bind fun y46 =>
 (A8 x42).bind fun y47 =>
 (A8 (strip (v19 1))).bind fun y48 =>
 (z8 ahT [x31,(v19 2),(v19 3),(v19 4),(v19 5),(v19 6),(v19 7),(v19 8),(.int .i64 1970),(.int .i64 1),(.int .i64 0),y45,y46,y47,y48] r17.2.2).bind fun r92 =>
 G0 r92.1 [
 y8 15 r92.2.1 fun v93 =>
 (b7 (.int .i64) .add (v93 0) (.int .i64 1)).bind fun x95 =>
 (A8 x95).bind fun y98 =>
 (qc L7 [(j6 r92.2.2 (.agg [(strip (v93 8)),(strip (v93 9)),(strip y98),(strip (v93 11)),(strip (v93 12)),(strip (v93 13)),(strip (v93 14))]))]).bind fun x100 =>
 (D7 .not x100).bind fun x101 =>
 l6 x101 (
 some ((.A4 [(.agg [(.int .i64 0),(.int .i64 0),(.int .i64 0),(.int .i64 0),(.int .i64 0),(.int .i64 0),(.int .i64 0)]),(.bool false)]),r92.2.2)) (
 some ((.A4 [(.agg [(strip (v93 8)),(strip (v93 9)),(strip y98),(strip (v93 11)),(strip (v93 12)),(strip (v93 13)),(strip (v93 14))]),(.bool true)]),r92.2.2))])]:=(j8 vb _ _ _ rfl).trans (by kernel_rfl)
theorem amn (a0 a1:V) (H:VH):cv J4 [a0,a1] H =
 (pcg aar H [a0,a1,(.int .i64 0),(.int .i64 (-1))]).bind fun r4 =>
 some (r4.1,r4.2):=(j8 vb _ _ _ rfl).trans (by kernel_rfl)
noncomputable def Y6:List V->VH->Option (Option Nat × List V × VH):=I4 (vb.ctx cv z8) (vb.b.M7 47) (vb.F7 47) ⟨⟨[0,1,2,3,9,10],[],[]⟩,[(.exit 0,⟨[0,9,10],[],[]⟩)]⟩ (I5 Tryz.f47 11)
theorem acV (v0 v1 v2 v3 v4 v5:V) (H:VH):Y6 [v0,v1,v2,v3,v4,v5] H =
 (b7 (.int .i64) .lss v5 v3).bind fun x34 =>
 l6 x34 (
 (qc adB [(j6 H v0),(j6 H v1)]).bind fun x37 =>
 (b7 (.int .i64) .lss x37 (.int .i64 0)).bind fun x40 =>
 l6 x40 (
 some (some 0,[(strip v0),v4,(strip v5)],H)) (
 (b7 (.int .i64) .add (strip x37) v2).bind fun x46 =>
 (H5 (strip v0) none (some x46)).bind fun x47 =>
 (A6 1 (strip v4) (strip v5)).bind fun x48 =>
 (A8 x47).bind fun y50 =>
 (K8 x48 [y50] H).bind fun H51 =>
 (F8 (strip v1)).bind fun x55 =>
 (b7 (.int .i64) .add (strip (strip x37)) x55).bind fun x56 =>
 (H5 (strip (strip v0)) (some x56) none).bind fun x57 =>
 (b7 (.int .i64) .add (strip (strip v5)) (.int .i64 1)).bind fun x60 =>
 some (none,[x57,(strip (strip v1)),(strip v2),(strip v3),v4,x60],H51))) (
 some (some 0,[v0,v4,(strip v5)],H)):=by kernel_rfl
theorem ajd (a0 a1 a2 a3:V) (H:VH):cv aar [a0,a1,a2,a3] H =
 (b7 (.int .i64) .eql a3 (.int .i64 0)).bind fun x2 =>
 l6 x2 (
 some ((.sl true []),H)) (
 (b7 .str .eql a1 (.str [])).bind fun x5 =>
 l6 x5 (
 (pc ajx [(j6 H a0),(j6 H (strip a3))]).bind fun x8 =>
 some (x8,H)) (
 (id (
 (b7 (.int .i64) .lss (strip a3) (.int .i64 0)).bind fun x11 =>
 l6 x11 (
 (qc ado [(j6 H a0),(j6 H (strip a1))]).bind fun x14 =>
 (b7 (.int .i64) .add x14 (.int .i64 1)).bind fun x15 =>
 some (0,[(strip a0),(strip (strip a1)),a2,x15],H)) (
 some (0,[a0,(strip a1),a2,(strip (strip a3))],H)):Option (Nat × List V × VH))).bind fun r17 =>
 G0 r17.1 [
 y8 4 r17.2.1 fun v18 =>
 (F8 (v18 0)).bind fun x21 =>
 (b7 (.int .i64) .add x21 (.int .i64 1)).bind fun x22 =>
 (akH (v18 3) x22).bind fun x23 =>
 (akn 16 x23 x23).bind fun x26 =>
 (b7 (.int .i64) .sub (strip x23) (.int .i64 1)).bind fun x29 =>
 (z8 Y6 [(strip (v18 0)),(v18 1),(v18 2),x29,(.l8 r17.2.2.length 0 x26.1 1),(.int .i64 0)] (r17.2.2++[aci x26.2 [(.str [])]])).bind fun r62 =>
 G0 r62.1 [
 y8 3 r62.2.1 fun v63 =>
 (A6 1 (strip (v63 1)) (v63 2)).bind fun x67 =>
 (A8 (v63 0)).bind fun y69 =>
 (K8 x67 [y69] r62.2.2).bind fun H70 =>
 (b7 (.int .i64) .add (strip (v63 2)) (.int .i64 1)).bind fun x73 =>
 (aaU 1 (strip (v63 1)) none (some x73)).bind fun x74 =>
 some (x74,H70)]])):=(j8 vb _ _ _ rfl).trans (by kernel_rfl)
noncomputable def amx:List V->VH->Option (Option Nat × List V × VH):=I4 (vb.ctx cv z8) (vb.b.M7 69) (vb.F7 69) ⟨⟨[0,1,5],[],[]⟩,[(.ret,⟨[4],[],[]⟩)]⟩ (I5 Tryz.f69 6)
theorem amw (a0 a1:V) (H:VH):cv ado [a0,a1] H =
 (F8 a1).bind fun x2 =>
 (b7 (.int .i64) .eql x2 (.int .i64 0)).bind fun x3 =>
 l6 x3 (
 (qc adb [(j6 H a0)]).bind fun x5 =>
 (b7 (.int .i64) .add x5 (.int .i64 1)).bind fun x6 =>
 some (x6,H)) (
 (F8 (strip a1)).bind fun x9 =>
 (b7 (.int .i64) .eql x9 (.int .i64 1)).bind fun x10 =>
 l6 x10 (
 (H8 (strip (strip a1)) (.int .i64 0)).bind fun x13 =>
 (alU 1 [a0,x13] fun x14 =>
  some (x14,H))) (
 (z8 amx [a0,(strip (strip a1)),(.int .i64 0)] H).bind fun r35 =>
 G0 r35.1 [
 y8 1 r35.2.1 fun v36 =>
 some ((v36 0),r35.2.2)])):=(j8 vb _ _ _ rfl).trans (by kernel_rfl)
theorem al8 (a0 a1:V) (H:VH):cv adB [a0,a1] H =
 (qc N1 [(j6 H a0),(j6 H a1)]).bind fun x3 =>
 some (x3,H):=(j8 vb _ _ _ rfl).trans (by kernel_rfl)
noncomputable def aek:List V->VH->Option (Option Nat × List V × VH):=I4 (vb.ctx cv z8) (vb.b.M7 106) (vb.F7 106) ⟨⟨[0,1,5,6,7,8,9,10],[],[]⟩,[(.exit 1,⟨[],[],[]⟩),(.ret,⟨[4],[],[]⟩)]⟩ (I5 Tryz.f106 15)
theorem aet (a0 a1:V) (H:VH):cv N1 [a0,a1] H =
 (F8 a1).bind fun x2 =>
 (id (
 (b7 (.int .i64) .eql x2 (.int .i64 0)).bind fun x5 =>
 o7 x5 (
 some (0,[(.int .i64 0)],H)) (
 (b7 .str .eql (strip a1) a0).bind fun x12 =>
 l6 x12 (
 some (0,[(.int .i64 0)],H)) (
 (b7 (.int .i64) .eql (strip x2) (.int .i64 1)).bind fun x17 =>
 l6 x17 (
 (H8 (strip (strip a1)) (.int .i64 0)).bind fun x21 =>
 (qc P4 [(j6 H (strip a0)),(j6 H x21)]).bind fun x22 =>
 some (0,[x22],H)) (
 (F8 (strip a0)).bind fun x26 =>
 (b7 (.int .i64) .geq (strip (strip x2)) x26).bind fun x27 =>
 l6 x27 (
 some (0,[(.int .i64 (-1))],H)) (
 (B2 o6 false false 1 (.gp 1 0) H).bind fun r32 =>
 (b7 (.int .i64) .leq (strip (strip (strip x2))) r32.1).bind fun x33 =>
 o7 x33 (
 (F8 (strip (strip a0))).bind fun x36 =>
 (b7 (.int .i64) .leq x36 (.int .i64 64)).bind fun x37 =>
 l6 x37 (
 (alU 2 [(strip (strip (strip a0))),(strip (strip a1))] fun x42 =>
  some (0,[x42],r32.2))) (
 some (1,[(strip (strip (strip a0))),(strip (strip a1)),(strip (strip (strip (strip x2))))],r32.2))) (
 some (1,[(strip (strip a0)),(strip (strip a1)),(strip (strip (strip (strip x2))))],r32.2)))))):Option (Nat × List V × VH))).bind fun r46 =>
 G0 r46.1 [
 y8 1 r46.2.1 fun v47 =>
 some ((v47 0),r46.2.2),
 y8 3 r46.2.1 fun v48 =>
 (H8 (v48 1) (.int .i64 0)).bind fun x50 =>
 (H8 (strip (v48 1)) (.int .i64 1)).bind fun x53 =>
 (F8 (v48 0)).bind fun x57 =>
 (b7 (.int .i64) .sub x57 (v48 2)).bind fun x59 =>
 (b7 (.int .i64) .add x59 (.int .i64 1)).bind fun x60 =>
 (z8 aek [(strip (v48 0)),(strip (strip (v48 1))),(strip (v48 2)),x50,x53,(.int .i64 0),x60,(.int .i64 0)] r46.2.2).bind fun r208 =>
 G0 r208.1 [
 y8 0 r208.2.1 fun v209 =>
 some ((.int .i64 (-1)),r208.2.2),
 y8 1 r208.2.1 fun v211 =>
 some ((v211 0),r208.2.2)]]:=(j8 vb _ _ _ rfl).trans (by kernel_rfl)
theorem adg (a0 a1:V) (H:VH):cv P4 [a0,a1] H =
 (alU 0 [a0,a1] fun x3 =>
  some (x3,H)):=(j8 vb _ _ _ rfl).trans (by kernel_rfl)
theorem ac3 (a0 a1:V) (H:VH):cv E8 [a0,a1] H =
 (qc U2 [(j6 H a1),(j6 H (.str [32]))]).bind fun x2 =>
 (C5 x2 0).bind fun x4 =>
 (C5 x2 1).bind fun x5 =>
 (C5 x2 2).bind fun x6 =>
 (D7 .not (strip x6)).bind fun x11 =>
 l6 x11 (
 (cv adL [(strip a0),(strip (strip x4))] H).bind fun r15 =>
 some (r15.1,r15.2)) (
 (b7 .str .eql (strip x4) (.str [115,97,121])).bind fun x18 =>
 l6 x18 (
 (cv ad8 [(strip a0),(strip (strip x5))] H).bind fun r23 =>
 some (r23.1,r23.2)) (
 (b7 .str .eql (strip x4) (.str [98,111,120])).bind fun x25 =>
 l6 x25 (
 (L4 a0).bind fun x28 =>
 (D9 x28 0).bind fun x29 =>
 (B2 o6 false false 1 x29 H).bind fun r31 =>
 (pc an7 [(j6 r31.2 r31.1),(j6 r31.2 (strip x5))]).bind fun x33 =>
 (C5 x33 0).bind fun x35 =>
 (C5 (aaA 0 x33) 1).bind fun x36 =>
 (D7 .not (strip x36)).bind fun x40 =>
 l6 x40 (
 some ((.str [119,104,97,116,10]),r31.2)) (
 (L4 (strip a0)).bind fun x44 =>
 (D9 x44 0).bind fun x45 =>
 (A8 x35).bind fun y47 =>
 (K8 x45 [y47] r31.2).bind fun H48 =>
 some ((.str [111,107,10]),H48))) (
 (b7 .str .eql (strip x4) (.str [116,97,107,101])).bind fun x50 =>
 l6 x50 (
 (cv X7 [(strip a0),(strip (strip x5))] H).bind fun r55 =>
 some (r55.1,r55.2)) (
 (b7 .str .eql (strip x4) (.str [100,97,116,101])).bind fun x57 =>
 l6 x57 (
 (pc acX [(j6 H (strip x5))]).bind fun x60 =>
 (C5 x60 0).bind fun x62 =>
 (C5 x60 1).bind fun x63 =>
 (C9 7 (strip x62)).bind fun c66 =>
 (D7 .not (strip x63)).bind fun x69 =>
 l6 x69 (
 some ((.str [119,104,97,116,10]),H)) (
 (L4 a0).bind fun x73 =>
 (D9 x73 7).bind fun x74 =>
 (K8 x74 [(strip (c66.getD 0 .c9)),(strip (c66.getD 1 .c9)),(strip (c66.getD 2 .c9)),(strip (c66.getD 3 .c9)),(strip (c66.getD 4 .c9)),(strip (c66.getD 5 .c9)),(strip (c66.getD 6 .c9))] H).bind fun H76 =>
 (qc V6 [(j6 H76 (.agg [(strip (c66.getD 0 .c9)),(strip (c66.getD 1 .c9)),(strip (c66.getD 2 .c9)),(strip (c66.getD 3 .c9)),(strip (c66.getD 4 .c9)),(strip (c66.getD 5 .c9)),(strip (c66.getD 6 .c9))]))]).bind fun x78 =>
 (b7 .str .add x78 (.str [10])).bind fun x79 =>
 some (x79,H76))) (
 (qc amh [(j6 H (strip (strip x4))),(j6 H (strip x5))]).bind fun x83 =>
 (C5 x83 0).bind fun x85 =>
 (C5 x83 1).bind fun x86 =>
 (D7 .not (strip x86)).bind fun x90 =>
 l6 x90 (
 some ((.str [119,104,97,116,10]),H)) (
 (b7 .str .add (.str [61,32]) (strip x85)).bind fun x93 =>
 (b7 .str .add x93 (.str [10])).bind fun x94 =>
 some (x94,H))))))):=(j8 vb _ _ _ rfl).trans (by kernel_rfl)
theorem aoG (a0 a1:V) (H:VH):cv U2 [a0,a1] H =
 (qc V8 [(j6 H a0),(j6 H a1)]).bind fun x5 =>
 (C5 x5 0).bind fun x6 =>
 (C5 x5 1).bind fun x7 =>
 (C5 x5 2).bind fun x8 =>
 some ((.A4 [(strip x6),(strip x7),(strip x8)]),H):=(j8 vb _ _ _ rfl).trans (by kernel_rfl)
theorem ae7 (a0 a1:V) (H:VH):cv V8 [a0,a1] H =
 (qc N1 [(j6 H a0),(j6 H a1)]).bind fun x5 =>
 (b7 (.int .i64) .geq x5 (.int .i64 0)).bind fun x8 =>
 l6 x8 (
 (H5 (strip a0) none (some (strip x5))).bind fun x11 =>
 (F8 (strip a1)).bind fun x15 =>
 (b7 (.int .i64) .add (strip (strip x5)) x15).bind fun x16 =>
 (H5 (strip (strip a0)) (some x16) none).bind fun x17 =>
 some ((.A4 [x11,x17,(.bool true)]),H)) (
 some ((.A4 [(strip a0),(.str []),(.bool false)]),H)):=(j8 vb _ _ _ rfl).trans (by kernel_rfl)
theorem ahM (a0 a1:V) (H:VH):cv adL [a0,a1] H =
 (b7 .str .eql a1 (.str [115,97,121])).bind fun x2 =>
 l6 x2 (
 (cv ad8 [(strip a0),(.str [])] H).bind fun r6 =>
 some (r6.1,r6.2)) (
 (b7 .str .eql a1 (.str [111,112,101,110])).bind fun x8 =>
 l6 x8 (
 (L4 a0).bind fun x12 =>
 (D9 x12 1).bind fun x13 =>
 (K8 x13 [(.int .i64 0),(.str []),(.str []),(.sl true []),(.sl true []),(.sl true [])] H).bind fun H15 =>
 some ((.str [111,107,10]),H15)) (
 (b7 .str .eql a1 (.str [99,108,101,97,114])).bind fun x17 =>
 l6 x17 (
 (pc ab7 []).bind fun x20 =>
 (L4 a0).bind fun x21 =>
 (C9 14 x20).bind fun c23 =>
 (K8 x21 [(c23.getD 0 .c9),(c23.getD 1 .c9),(c23.getD 2 .c9),(c23.getD 3 .c9),(c23.getD 4 .c9),(c23.getD 5 .c9),(c23.getD 6 .c9),(c23.getD 7 .c9),(c23.getD 8 .c9),(c23.getD 9 .c9),(c23.getD 10 .c9),(c23.getD 11 .c9),(c23.getD 12 .c9),(c23.getD 13 .c9)] H).bind fun H24 =>
 some ((.str [111,107,10]),H24)) (
 (b7 .str .eql a1 (.str [112,97,115,115])).bind fun x26 =>
 l6 x26 (
 (cv O1 [(strip a0)] H).bind fun r30 =>
 some (r30.1,r30.2)) (
 (b7 .str .eql a1 (.str [104,101,108,100])).bind fun x32 =>
 l6 x32 (
 (L4 a0).bind fun x35 =>
 (D9 x35 0).bind fun x36 =>
 (B2 o6 false false 1 x36 H).bind fun r38 =>
 (qc ak1 [(j6 r38.2 r38.1)]).bind fun x39 =>
 (qc B6 [(j6 r38.2 x39),(j6 r38.2 (.int .i64 1))]).bind fun x40 =>
 (b7 .str .add (.str [104,101,108,100,32]) x40).bind fun x41 =>
 (b7 .str .add x41 (.str [10])).bind fun x42 =>
 some (x42,r38.2)) (
 (b7 .str .eql a1 (.str [100,111,110,101])).bind fun x44 =>
 l6 x44 (
 (L4 a0).bind fun x47 =>
 (D9 x47 1).bind fun x48 =>
 (D9 x48 5).bind fun x49 =>
 (B2 o6 false false 1 x49 H).bind fun r51 =>
 (D6 r51.1).bind fun x52 =>
 (qc B6 [(j6 r51.2 x52),(j6 r51.2 (.int .i64 1))]).bind fun x53 =>
 (b7 .str .add (.str [100,111,110,101,32]) x53).bind fun x54 =>
 (b7 .str .add x54 (.str [10])).bind fun x55 =>
 some (x55,r51.2)) (
 some ((.str [119,104,97,116,10]),H))))))):=(j8 vb _ _ _ rfl).trans (by kernel_rfl)
theorem akh (a0 a1 a2:V) (H:VH):cv acf [a0,a1,a2] H =
 (C9 3 a0).bind fun c1 =>
 (qc aeT [(j6 H (strip (c1.getD 0 .c9)))]).bind fun x5 =>
 o7 x5 (
 (D6 (strip (c1.getD 1 .c9))).bind fun x9 =>
 (b7 (.int .i64) .geq x9 a1).bind fun x11 =>
 o7 x11 (
 (D6 (strip (c1.getD 1 .c9))).bind fun x16 =>
 (b7 (.int .i64) .leq x16 (.int .i64 10)).bind fun x17 =>
 o7 x17 (
 (qc C8 [(j6 H (strip (c1.getD 1 .c9))),(j6 H (.fn Y7 []))]).bind fun x22 =>
 (D7 .not x22).bind fun x23 =>
 o7 x23 (
 (qc adJ [(j6 H (strip (c1.getD 2 .c9))),(j6 H a2)]).bind fun x29 =>
 some (x29,H)) (
 some ((.bool false),H))) (
 some ((.bool false),H))) (
 some ((.bool false),H))) (
 some ((.bool false),H)):=(j8 vb _ _ _ rfl).trans (by kernel_rfl)
theorem aol (a0:V) (H:VH):cv aeT [a0] H =
 (b7 .str .eql a0 (.str [])).bind fun x2 =>
 o7 x2 (
 some ((.bool true),H)) (
 (qc abc [(j6 H (strip a0))]).bind fun x7 =>
 some (x7,H)):=(j8 vb _ _ _ rfl).trans (by kernel_rfl)
theorem aox (a0:V) (H:VH):cv abc [a0] H =
 (qc U2 [(j6 H a0),(j6 H (.str [64]))]).bind fun x2 =>
 (C5 x2 0).bind fun x4 =>
 (C5 x2 1).bind fun x5 =>
 (C5 x2 2).bind fun x6 =>
 o7 (strip x6) (
 (qc aef [(j6 H (strip x4))]).bind fun x13 =>
 o7 x13 (
 (qc abC [(j6 H (strip x5))]).bind fun x17 =>
 some (x17,H)) (
 some ((.bool false),H))) (
 some ((.bool false),H)):=(j8 vb _ _ _ rfl).trans (by kernel_rfl)
theorem amJ (a0:V) (H:VH):cv aef [a0] H =
 (F8 a0).bind fun x2 =>
 (b7 (.int .i64) .leq x2 (.int .i64 30)).bind fun x3 =>
 o7 x3 (
 (pc J4 [(j6 H (strip a0)),(j6 H (.str [46]))]).bind fun x6 =>
 (qc C8 [(j6 H x6),(j6 H (.fn aa4 []))]).bind fun x7 =>
 (D7 .not x7).bind fun x8 =>
 some (x8,H)) (
 some ((.bool false),H)):=(j8 vb _ _ _ rfl).trans (by kernel_rfl)
theorem abO (a0 a1:V) (H:VH):cv C8 [a0,a1] H =
 (qc D4 [(j6 H (strip a0)),(j6 H a1)]).bind fun x3 =>
 (b7 (.int .i64) .geq x3 (.int .i64 0)).bind fun x4 =>
 some (x4,H):=(j8 vb _ _ _ rfl).trans (by kernel_rfl)
noncomputable def J1:List V->VH->Option (Option Nat × List V × VH):=I4 (vb.ctx cv z8) (vb.b.M7 61) (vb.F7 61) ⟨⟨[0,1,7,8],[],[]⟩,[(.exit 0,⟨[],[],[]⟩),(.ret,⟨[4],[],[]⟩)]⟩ (I5 Tryz.f61 2)
theorem T2 (v0 v1 v2 v3:V) (H:VH):J1 [v0,v1,v2,v3] H =
 (b7 (.int .i64) .lss v3 v2).bind fun x4 =>
 l6 x4 (
 (A6 1 (strip v0) v3).bind fun x10 =>
 (B2 o6 false false 1 x10 H).bind fun r12 =>
 (adX v1).bind fun p14 =>
 (qc p14.1 ((([r12.1]:List V)++p14.2).map (j6 r12.2))).bind fun x13 =>
 l6 x13 (
 some (some 1,[(strip v3)],r12.2)) (
 (b7 (.int .i64) .add (strip v3) (.int .i64 1)).bind fun x17 =>
 some (none,[v0,(strip v1),v2,x17],r12.2))) (
 some (some 0,[],H)):=by kernel_rfl
theorem aca (a0 a1:V) (H:VH):cv D4 [a0,a1] H =
 (D6 (strip a0)).bind fun x2 =>
 (z8 J1 [a0,a1,x2,(.int .i64 0)] H).bind fun r19 =>
 G0 r19.1 [
 y8 0 r19.2.1 fun v20 =>
 some ((.int .i64 (-1)),r19.2.2),
 y8 1 r19.2.1 fun v22 =>
 some ((v22 0),r19.2.2)]:=(j8 vb _ _ _ rfl).trans (by kernel_rfl)
theorem ale (a0:V) (H:VH):cv aa4 [a0] H =
 (qc ac4 [(j6 H a0)]).bind fun x2 =>
 (D7 .not x2).bind fun x3 =>
 some (x3,H):=(j8 vb _ _ _ rfl).trans (by kernel_rfl)
theorem ali (a0:V) (H:VH):cv ac4 [a0] H =
 (F8 a0).bind fun x2 =>
 (b7 (.int .i64) .geq x2 (.int .i64 1)).bind fun x3 =>
 o7 x3 (
 (F8 (strip a0)).bind fun x6 =>
 (b7 (.int .i64) .leq x6 (.int .i64 40)).bind fun x7 =>
 o7 x7 (
 (qc aah [(j6 H (strip (strip a0))),(j6 H (.fn aaJ []))]).bind fun x11 =>
 some (x11,H)) (
 some ((.bool false),H))) (
 some ((.bool false),H)):=(j8 vb _ _ _ rfl).trans (by kernel_rfl)
noncomputable def abI:List V->VH->Option (Option Nat × List V × VH):=I4 (vb.ctx cv z8) (vb.b.M7 123) (vb.F7 123) ⟨⟨[0,1,7,8],[],[]⟩,[(.exit 0,⟨[],[],[]⟩),(.ret,⟨[4],[],[]⟩)]⟩ (I5 Tryz.f123 2)
theorem aeu (v0 v1 v2 v3:V) (H:VH):abI [v0,v1,v2,v3] H =
 (b7 (.int .i64) .lss v3 v2).bind fun x4 =>
 l6 x4 (
 (H8 v0 v3).bind fun x10 =>
 (adX v1).bind fun p12 =>
 (qc p12.1 ((([x10]:List V)++p12.2).map (j6 H))).bind fun x11 =>
 (D7 .not x11).bind fun x13 =>
 l6 x13 (
 some (some 1,[(.bool false)],H)) (
 (b7 (.int .i64) .add (strip v3) (.int .i64 1)).bind fun x15 =>
 some (none,[(strip v0),(strip v1),v2,x15],H))) (
 some (some 0,[],H)):=by kernel_rfl
theorem alG (a0 a1:V) (H:VH):cv aah [a0,a1] H =
 (F8 a0).bind fun x2 =>
 (z8 abI [(strip a0),a1,x2,(.int .i64 0)] H).bind fun r17 =>
 G0 r17.1 [
 y8 0 r17.2.1 fun v18 =>
 some ((.bool true),r17.2.2),
 y8 1 r17.2.1 fun v20 =>
 some ((v20 0),r17.2.2)]:=(j8 vb _ _ _ rfl).trans (by kernel_rfl)
theorem ajA (a0:V) (H:VH):cv aaJ [a0] H =
 (qc adE [(j6 H a0)]).bind fun x2 =>
 o7 x2 (
 some ((.bool true),H)) (
 (qc R8 [(j6 H (strip a0))]).bind fun x27 =>
 o7 x27 (
 some ((.bool true),H)) (
 (b7 (.int .u8) .eql (strip (strip a0)) (.int .u8 33)).bind fun x51 =>
 o7 x51 (
 some ((.bool true),H)) (
 (b7 (.int .u8) .geq (strip (strip (strip a0))) (.int .u8 35)).bind fun x73 =>
 o7 x73 (
 (b7 (.int .u8) .leq (strip (strip (strip (strip a0)))) (.int .u8 39)).bind fun x76 =>
 o7 x76 (
 some ((.bool true),H)) (
 (b7 (.int .u8) .eql (strip (strip (strip (strip (strip a0))))) (.int .u8 42)).bind fun x97 =>
 o7 x97 (
 some ((.bool true),H)) (
 (b7 (.int .u8) .eql (strip (strip (strip (strip (strip (strip a0)))))) (.int .u8 43)).bind fun x115 =>
 o7 x115 (
 some ((.bool true),H)) (
 (b7 (.int .u8) .eql (strip (strip (strip (strip (strip (strip (strip a0))))))) (.int .u8 45)).bind fun x131 =>
 o7 x131 (
 some ((.bool true),H)) (
 (b7 (.int .u8) .eql (strip (strip (strip (strip (strip (strip (strip (strip a0)))))))) (.int .u8 47)).bind fun x145 =>
 o7 x145 (
 some ((.bool true),H)) (
 (b7 (.int .u8) .eql (strip (strip (strip (strip (strip (strip (strip (strip (strip a0))))))))) (.int .u8 61)).bind fun x157 =>
 o7 x157 (
 some ((.bool true),H)) (
 (b7 (.int .u8) .eql (strip (strip (strip (strip (strip (strip (strip (strip (strip (strip a0)))))))))) (.int .u8 63)).bind fun x167 =>
 o7 x167 (
 some ((.bool true),H)) (
 (b7 (.int .u8) .geq (strip (strip (strip (strip (strip (strip (strip (strip (strip (strip (strip a0))))))))))) (.int .u8 94)).bind fun x175 =>
 o7 x175 (
 (b7 (.int .u8) .leq (strip (strip (strip (strip (strip (strip (strip (strip (strip (strip (strip (strip a0)))))))))))) (.int .u8 96)).bind fun x178 =>
 o7 x178 (
 some ((.bool true),H)) (
 (b7 (.int .u8) .geq (strip (strip (strip (strip (strip (strip (strip (strip (strip (strip (strip (strip (strip a0))))))))))))) (.int .u8 123)).bind fun x185 =>
 o7 x185 (
 (b7 (.int .u8) .leq (strip (strip (strip (strip (strip (strip (strip (strip (strip (strip (strip (strip (strip (strip a0)))))))))))))) (.int .u8 126)).bind fun x188 =>
 some (x188,H)) (
 some ((.bool false),H)))) (
 (b7 (.int .u8) .geq (strip (strip (strip (strip (strip (strip (strip (strip (strip (strip (strip (strip a0)))))))))))) (.int .u8 123)).bind fun x199 =>
 o7 x199 (
 (b7 (.int .u8) .leq (strip (strip (strip (strip (strip (strip (strip (strip (strip (strip (strip (strip (strip a0))))))))))))) (.int .u8 126)).bind fun x202 =>
 some (x202,H)) (
 some ((.bool false),H))))))))))) (
 (b7 (.int .u8) .eql (strip (strip (strip (strip a0)))) (.int .u8 42)).bind fun x213 =>
 o7 x213 (
 some ((.bool true),H)) (
 (b7 (.int .u8) .eql (strip (strip (strip (strip (strip a0))))) (.int .u8 43)).bind fun x231 =>
 o7 x231 (
 some ((.bool true),H)) (
 (b7 (.int .u8) .eql (strip (strip (strip (strip (strip (strip a0)))))) (.int .u8 45)).bind fun x247 =>
 o7 x247 (
 some ((.bool true),H)) (
 (b7 (.int .u8) .eql (strip (strip (strip (strip (strip (strip (strip a0))))))) (.int .u8 47)).bind fun x261 =>
 o7 x261 (
 some ((.bool true),H)) (
 (b7 (.int .u8) .eql (strip (strip (strip (strip (strip (strip (strip (strip a0)))))))) (.int .u8 61)).bind fun x273 =>
 o7 x273 (
 some ((.bool true),H)) (
 (b7 (.int .u8) .eql (strip (strip (strip (strip (strip (strip (strip (strip (strip a0))))))))) (.int .u8 63)).bind fun x283 =>
 o7 x283 (
 some ((.bool true),H)) (
 (b7 (.int .u8) .geq (strip (strip (strip (strip (strip (strip (strip (strip (strip (strip a0)))))))))) (.int .u8 94)).bind fun x291 =>
 o7 x291 (
 (b7 (.int .u8) .leq (strip (strip (strip (strip (strip (strip (strip (strip (strip (strip (strip a0))))))))))) (.int .u8 96)).bind fun x294 =>
 o7 x294 (
 some ((.bool true),H)) (
 (b7 (.int .u8) .geq (strip (strip (strip (strip (strip (strip (strip (strip (strip (strip (strip (strip a0)))))))))))) (.int .u8 123)).bind fun x301 =>
 o7 x301 (
 (b7 (.int .u8) .leq (strip (strip (strip (strip (strip (strip (strip (strip (strip (strip (strip (strip (strip a0))))))))))))) (.int .u8 126)).bind fun x304 =>
 some (x304,H)) (
 some ((.bool false),H)))) (
 (b7 (.int .u8) .geq (strip (strip (strip (strip (strip (strip (strip (strip (strip (strip (strip a0))))))))))) (.int .u8 123)).bind fun x315 =>
 o7 x315 (
 (b7 (.int .u8) .leq (strip (strip (strip (strip (strip (strip (strip (strip (strip (strip (strip (strip a0)))))))))))) (.int .u8 126)).bind fun x318 =>
 some (x318,H)) (
 some ((.bool false),H))))))))))))):=(j8 vb _ _ _ rfl).trans (by kernel_rfl)
theorem alC (a0:V) (H:VH):cv adE [a0] H =
 (b7 (.int .u8) .geq a0 (.int .u8 97)).bind fun x2 =>
 o7 x2 (
 (b7 (.int .u8) .leq (strip a0) (.int .u8 122)).bind fun x5 =>
 o7 x5 (
 some ((.bool true),H)) (
 (b7 (.int .u8) .geq (strip (strip a0)) (.int .u8 65)).bind fun x11 =>
 o7 x11 (
 (b7 (.int .u8) .leq (strip (strip (strip a0))) (.int .u8 90)).bind fun x14 =>
 some (x14,H)) (
 some ((.bool false),H)))) (
 (b7 (.int .u8) .geq (strip a0) (.int .u8 65)).bind fun x24 =>
 o7 x24 (
 (b7 (.int .u8) .leq (strip (strip a0)) (.int .u8 90)).bind fun x27 =>
 some (x27,H)) (
 some ((.bool false),H))):=(j8 vb _ _ _ rfl).trans (by kernel_rfl)
theorem amQ (a0:V) (H:VH):cv R8 [a0] H =
 (b7 (.int .u8) .geq a0 (.int .u8 48)).bind fun x2 =>
 o7 x2 (
 (b7 (.int .u8) .leq (strip a0) (.int .u8 57)).bind fun x5 =>
 some (x5,H)) (
 some ((.bool false),H)):=(j8 vb _ _ _ rfl).trans (by kernel_rfl)
theorem al1 (a0:V) (H:VH):cv abC [a0] H =
 (F8 a0).bind fun x2 =>
 (b7 (.int .i64) .leq x2 (.int .i64 40)).bind fun x3 =>
 o7 x3 (
 (pc J4 [(j6 H (strip a0)),(j6 H (.str [46]))]).bind fun x6 =>
 (qc C8 [(j6 H x6),(j6 H (.fn aaB []))]).bind fun x7 =>
 (D7 .not x7).bind fun x8 =>
 some (x8,H)) (
 some ((.bool false),H)):=(j8 vb _ _ _ rfl).trans (by kernel_rfl)
theorem ajg (a0:V) (H:VH):cv aaB [a0] H =
 (qc ad3 [(j6 H a0)]).bind fun x2 =>
 (D7 .not x2).bind fun x3 =>
 some (x3,H):=(j8 vb _ _ _ rfl).trans (by kernel_rfl)
theorem anr (a0:V) (H:VH):cv ad3 [a0] H =
 (b7 .str .neq a0 (.str [])).bind fun x2 =>
 o7 x2 (
 (H8 (strip a0) (.int .i64 0)).bind fun x5 =>
 (b7 (.int .u8) .neq x5 (.int .u8 45)).bind fun x6 =>
 o7 x6 (
 (F8 (strip (strip (strip a0)))).bind fun x11 =>
 (b7 (.int .i64) .sub x11 (.int .i64 1)).bind fun x12 =>
 (H8 (strip (strip a0)) x12).bind fun x13 =>
 (b7 (.int .u8) .neq x13 (.int .u8 45)).bind fun x14 =>
 o7 x14 (
 (qc aah [(j6 H (strip (strip (strip (strip a0))))),(j6 H (.fn aa0 []))]).bind fun x18 =>
 some (x18,H)) (
 some ((.bool false),H))) (
 some ((.bool false),H))) (
 some ((.bool false),H)):=(j8 vb _ _ _ rfl).trans (by kernel_rfl)
theorem alj (a0:V) (H:VH):cv aa0 [a0] H =
 (b7 (.int .u8) .geq a0 (.int .u8 97)).bind fun x2 =>
 o7 x2 (
 (b7 (.int .u8) .leq (strip a0) (.int .u8 122)).bind fun x5 =>
 o7 x5 (
 some ((.bool true),H)) (
 (qc R8 [(j6 H (strip (strip a0)))]).bind fun x13 =>
 o7 x13 (
 some ((.bool true),H)) (
 (b7 (.int .u8) .eql (strip (strip (strip a0))) (.int .u8 45)).bind fun x19 =>
 some (x19,H)))) (
 (qc R8 [(j6 H (strip a0))]).bind fun x25 =>
 o7 x25 (
 some ((.bool true),H)) (
 (b7 (.int .u8) .eql (strip (strip a0)) (.int .u8 45)).bind fun x31 =>
 some (x31,H))):=(j8 vb _ _ _ rfl).trans (by kernel_rfl)
theorem aiV (a0:V) (H:VH):cv Y7 [a0] H =
 (qc abc [(j6 H a0)]).bind fun x2 =>
 (D7 .not x2).bind fun x3 =>
 some (x3,H):=(j8 vb _ _ _ rfl).trans (by kernel_rfl)
theorem alB (a0 a1:V) (H:VH):cv adJ [a0,a1] H =
 (D6 (strip a0)).bind fun x2 =>
 (b7 (.int .i64) .leq x2 a1).bind fun x4 =>
 o7 x4 (
 (qc C8 [(j6 H (strip a0)),(j6 H (.fn aaS []))]).bind fun x7 =>
 (D7 .not x7).bind fun x8 =>
 some (x8,H)) (
 some ((.bool false),H)):=(j8 vb _ _ _ rfl).trans (by kernel_rfl)
theorem akr (a0:V) (H:VH):cv aaS [a0] H =
 (qc aa3 [(j6 H a0)]).bind fun x2 =>
 (D7 .not x2).bind fun x3 =>
 some (x3,H):=(j8 vb _ _ _ rfl).trans (by kernel_rfl)
noncomputable def aa8:List V->VH->Option (Option Nat × List V × VH):=I4 (vb.ctx cv z8) (vb.b.M7 33) (vb.F7 33) ⟨⟨[0,5,6],[],[]⟩,[(.exit 0,⟨[0],[],[]⟩),(.ret,⟨[2],[],[]⟩)]⟩ (I5 Tryz.f33 2)
theorem aej (v0 v1 v2:V) (H:VH):aa8 [v0,v1,v2] H =
 (b7 (.int .i64) .lss v2 v1).bind fun x4 =>
 l6 x4 (
 (H8 v0 v2).bind fun x9 =>
 (b7 (.int .u8) .lss x9 (.int .u8 32)).bind fun x10 =>
 o7 x10 (
 some (some 1,[(.bool false)],H)) (
 (H8 (strip v0) (strip v2)).bind fun x16 =>
 (b7 (.int .u8) .gtr x16 (.int .u8 126)).bind fun x17 =>
 l6 x17 (
 some (some 1,[(.bool false)],H)) (
 (b7 (.int .i64) .add (strip v2) (.int .i64 1)).bind fun x20 =>
 some (none,[(strip (strip v0)),v1,x20],H)))) (
 some (some 0,[v0],H)):=by kernel_rfl
theorem alh (a0:V) (H:VH):cv aa3 [a0] H =
 (F8 a0).bind fun x2 =>
 (z8 aa8 [(strip a0),x2,(.int .i64 0)] H).bind fun r22 =>
 G0 r22.1 [
 y8 1 r22.2.1 fun v23 =>
 (F8 (v23 0)).bind fun x25 =>
 (b7 (.int .i64) .leq x25 (.int .i64 200)).bind fun x26 =>
 some (x26,r22.2.2),
 y8 1 r22.2.1 fun v28 =>
 some ((v28 0),r22.2.2)]:=(j8 vb _ _ _ rfl).trans (by kernel_rfl)
theorem ake (a0 a1:V) (H:VH):cv ack [a0,a1] H =
 (D6 (strip a0)).bind fun x2 =>
 (b7 (.int .i64) .leq x2 a1).bind fun x4 =>
 o7 x4 (
 (qc I9 [(j6 H (strip a0)),(j6 H (.fn Z3 []))]).bind fun x7 =>
 (D7 .not x7).bind fun x8 =>
 some (x8,H)) (
 some ((.bool false),H)):=(j8 vb _ _ _ rfl).trans (by kernel_rfl)
theorem aaC (a0 a1:V) (H:VH):cv I9 [a0,a1] H =
 (qc J7 [(j6 H (strip a0)),(j6 H a1)]).bind fun x3 =>
 (b7 (.int .i64) .geq x3 (.int .i64 0)).bind fun x4 =>
 some (x4,H):=(j8 vb _ _ _ rfl).trans (by kernel_rfl)
noncomputable def F1:List V->VH->Option (Option Nat × List V × VH):=I4 (vb.ctx cv z8) (vb.b.M7 194) (vb.F7 194) ⟨⟨[0,1,7,8],[],[]⟩,[(.exit 0,⟨[],[],[]⟩),(.ret,⟨[4],[],[]⟩)]⟩ (I5 Tryz.f194 2)
theorem O3 (v0 v1 v2 v3:V) (H:VH):F1 [v0,v1,v2,v3] H =
 (b7 (.int .i64) .lss v3 v2).bind fun x4 =>
 l6 x4 (
 (A6 3 (strip v0) v3).bind fun x10 =>
 (B2 o6 false true 3 x10 H).bind fun r12 =>
 (adX v1).bind fun p14 =>
 (qc p14.1 ((([r12.1]:List V)++p14.2).map (j6 r12.2))).bind fun x13 =>
 l6 x13 (
 some (some 1,[(strip v3)],r12.2)) (
 (b7 (.int .i64) .add (strip v3) (.int .i64 1)).bind fun x17 =>
 some (none,[v0,(strip v1),v2,x17],r12.2))) (
 some (some 0,[],H)):=by kernel_rfl
theorem abf (a0 a1:V) (H:VH):cv J7 [a0,a1] H =
 (D6 (strip a0)).bind fun x2 =>
 (z8 F1 [a0,a1,x2,(.int .i64 0)] H).bind fun r19 =>
 G0 r19.1 [
 y8 0 r19.2.1 fun v20 =>
 some ((.int .i64 (-1)),r19.2.2),
 y8 1 r19.2.1 fun v22 =>
 some ((v22 0),r19.2.2)]:=(j8 vb _ _ _ rfl).trans (by kernel_rfl)
theorem aiU (a0:V) (H:VH):cv Z3 [a0] H =
 (C9 3 a0).bind fun c1 =>
 (qc Y0 [(j6 H (.agg [(strip (c1.getD 0 .c9)),(strip (c1.getD 1 .c9)),(strip (c1.getD 2 .c9))]))]).bind fun x4 =>
 (D7 .not x4).bind fun x5 =>
 some (x5,H):=(j8 vb _ _ _ rfl).trans (by kernel_rfl)
theorem akU (a0:V) (H:VH):cv Y0 [a0] H =
 (C9 3 a0).bind fun c1 =>
 (qc acf [(j6 H (.agg [(strip (c1.getD 0 .c9)),(strip (c1.getD 1 .c9)),(strip (c1.getD 2 .c9))])),(j6 H (.int .i64 1)),(j6 H (.int .i64 30))]).bind fun x4 =>
 some (x4,H):=(j8 vb _ _ _ rfl).trans (by kernel_rfl)
theorem amv (a0:V) (H:VH):cv abA [a0] H =
 (C9 3 a0).bind fun c1 =>
 (pc E5 [(j6 H (strip (c1.getD 1 .c9)))]).bind fun x7 =>
 (pc E5 [(j6 H (strip (c1.getD 2 .c9)))]).bind fun x10 =>
 (A8 (strip (c1.getD 0 .c9))).bind fun y12 =>
 (A8 x7).bind fun y13 =>
 (A8 x10).bind fun y14 =>
 some ((.agg [y12,y13,y14]),H):=(j8 vb _ _ _ rfl).trans (by kernel_rfl)
theorem adF (a0:V) (H:VH):cv E5 [a0] H =
 (af8 .eql (strip a0)).bind fun x2 =>
 l6 x2 (
 some ((.sl true []),H)) (
 (aay false 1 16 [] a0).bind fun x6 =>
 some (x6,H)):=(j8 vb _ _ _ rfl).trans (by kernel_rfl)
noncomputable def afF:List V->VH->Option (Option Nat × List V × VH):=I4 (vb.ctx cv z8) (vb.b.M7 121) (vb.F7 121) ⟨⟨[3,7,8,9],[],[]⟩,[(.exit 0,⟨[3],[],[]⟩)]⟩ (I5 Tryz.f121 3)
theorem aiw (v0 v1 v2 v3:V) (H:VH):afF [v0,v1,v2,v3] H =
 (b7 (.int .i64) .lss v3 v2).bind fun x6 =>
 l6 x6 (
 (A6 3 v1 v3).bind fun x7 =>
 (B2 o6 false true 3 x7 H).bind fun r9 =>
 (C9 3 r9.1).bind fun c12 =>
 (pc abA [(j6 r9.2 (.agg [(strip (c12.getD 0 .c9)),(strip (c12.getD 1 .c9)),(strip (c12.getD 2 .c9))]))]).bind fun x15 =>
 (C9 3 x15).bind fun c17 =>
 (aez v0).bind fun s19 =>
 (aay false 3 64 s19 (.sl true [[(c17.getD 0 .c9),(c17.getD 1 .c9),(c17.getD 2 .c9)]])).bind fun x18 =>
 (b7 (.int .i64) .add v3 (.int .i64 1)).bind fun x21 =>
 some (none,[x18,v1,v2,x21],r9.2)) (
 some (some 0,[v0],H)):=by kernel_rfl
theorem akZ (a0:V) (H:VH):cv aa1 [a0] H =
 (D6 (strip a0)).bind fun x4 =>
 (z8 afF [(.sl true []),(strip a0),x4,(.int .i64 0)] H).bind fun r23 =>
 G0 r23.1 [
 y8 1 r23.2.1 fun v24 =>
 some ((v24 0),r23.2.2)]:=(j8 vb _ _ _ rfl).trans (by kernel_rfl)
theorem ac8 (a0 a1:V) (H:VH):cv O9 [a0,a1] H =
 (F8 a0).bind fun x2 =>
 (F8 a1).bind fun x4 =>
 (b7 (.int .i64) .geq x2 x4).bind fun x5 =>
 o7 x5 (
 (F8 (strip a1)).bind fun x9 =>
 (H5 (strip a0) none (some x9)).bind fun x10 =>
 (b7 .str .eql x10 (strip (strip a1))).bind fun x12 =>
 some (x12,H)) (
 some ((.bool false),H)):=(j8 vb _ _ _ rfl).trans (by kernel_rfl)
noncomputable def afQ:List V->VH->Option (Option Nat × List V × VH):=I4 (vb.ctx cv z8) (vb.b.M7 63) (vb.F7 63) ⟨⟨[3,8,9,10],[],[]⟩,[(.exit 0,⟨[3],[],[]⟩)]⟩ (I5 Tryz.f63 3)
theorem aiy (v0 v1 v2 v3:V) (H:VH):afQ [v0,v1,v2,v3] H =
 (b7 (.int .i64) .lss v3 v2).bind fun x7 =>
 l6 x7 (
 (A6 1 v1 (strip v3)).bind fun x9 =>
 (B2 o6 false false 1 x9 H).bind fun r11 =>
 (b7 (.int .u8) .geq r11.1 (.int .u8 65)).bind fun x15 =>
 o7 x15 (
 (b7 (.int .u8) .leq (strip r11.1) (.int .u8 90)).bind fun x18 =>
 l6 x18 (
 (A6 1 (strip v0) v3).bind fun x22 =>
 (B2 o6 false false 1 x22 r11.2).bind fun r24 =>
 (b7 (.int .u8) .add r24.1 (.int .u8 32)).bind fun x25 =>
 (A6 1 (strip v0) v3).bind fun x26 =>
 (A8 x25).bind fun y28 =>
 (K8 x26 [y28] r24.2).bind fun H29 =>
 (b7 (.int .i64) .add (strip v3) (.int .i64 1)).bind fun x30 =>
 some (none,[v0,v1,v2,x30],H29)) (
 (b7 (.int .i64) .add (strip v3) (.int .i64 1)).bind fun x32 =>
 some (none,[v0,v1,v2,x32],r11.2))) (
 (b7 (.int .i64) .add (strip v3) (.int .i64 1)).bind fun x35 =>
 some (none,[v0,v1,v2,x35],r11.2))) (
 some (some 0,[v0],H)):=by kernel_rfl
theorem alb (a0:V) (H:VH):cv abb [a0] H =
 (atH a0).bind fun x2 =>
 (D6 (.l8 H.length 0 x2.length 1)).bind fun x5 =>
 (z8 afQ [(.l8 H.length 0 x2.length 1),(.l8 H.length 0 x2.length 1),x5,(.int .i64 0)] (H++[x2])).bind fun r37 =>
 G0 r37.1 [
 y8 1 r37.2.1 fun v38 =>
 (ahy (strip (v38 0)) r37.2.2).bind fun x40 =>
 some (x40,r37.2.2)]:=(j8 vb _ _ _ rfl).trans (by kernel_rfl)
noncomputable def acr:List V->VH->Option (Option Nat × List V × VH):=I4 (vb.ctx cv z8) (vb.b.M7 72) (vb.F7 72) ⟨⟨[0,3,17,18,19,53,54,55],[],[]⟩,[(.exit 2,⟨[0,3,17,18,19],[],[]⟩)]⟩ (I5 Tryz.f72 12)
noncomputable def afN:List V->VH->Option (Option Nat × List V × VH):=I4 (vb.ctx cv z8) (vb.b.M7 72) (vb.F7 72) ⟨⟨[0,3,17,18,19],[],[]⟩,[(.exit 0,⟨[0,3],[],[]⟩)]⟩ (I5 Tryz.f72 3)
theorem ahO (v0 v1 v2 v3 v4 v5 v6 v7:V) (H:VH):acr [v0,v1,v2,v3,v4,v5,v6,v7] H =
 (b7 (.int .i64) .lss v7 v6).bind fun x68 =>
 l6 x68 (
 (A6 1 v5 v7).bind fun x69 =>
 (B2 o6 false false 1 x69 H).bind fun r71 =>
 (qc B6 [(j6 r71.2 r71.1),(j6 r71.2 (.int .i64 1))]).bind fun x75 =>
 (b7 .str .add (.str [32]) x75).bind fun x76 =>
 (b7 .str .add v1 x76).bind fun x77 =>
 (b7 (.int .i64) .add v7 (.int .i64 1)).bind fun x79 =>
 some (none,[v0,x77,v2,v3,v4,v5,v6,x79],r71.2)) (
 some (some 0,[v0,v1,v2,v3,v4],H)):=by kernel_rfl
theorem Y8 (v0 v1 v2 v3 v4:V) (H:VH):afN [v0,v1,v2,v3,v4] H =
 (b7 (.int .i64) .lss v4 v3).bind fun x10 =>
 l6 x10 (
 (A6 3 v2 v4).bind fun x11 =>
 (B2 o6 false true 3 x11 H).bind fun r13 =>
 (C9 3 r13.1).bind fun c16 =>
 (L4 v0).bind fun x19 =>
 (D9 x19 7).bind fun x20 =>
 (B2 o6 false true 7 x20 r13.2).bind fun r22 =>
 (pc T0 [(j6 r22.2 (.agg [(strip (c16.getD 0 .c9)),(strip (c16.getD 1 .c9)),(strip (c16.getD 2 .c9))])),(j6 r22.2 (.str [103,97,116,101,46,101,120,97,109,112,108,101])),(j6 r22.2 r22.1)]).bind fun x23 =>
 (C5 x23 0).bind fun x25 =>
 (C5 (aaA 0 x23) 1).bind fun x26 =>
 (C9 3 x25).bind fun c29 =>
 (K8 (.ptr r22.2.length 0) [(c29.getD 0 .c9),(c29.getD 1 .c9),(c29.getD 2 .c9)] (r22.2++[[(.str []),(.sl true []),(.sl true [])]])).bind fun H30 =>
 (D7 .not (strip x26)).bind fun x33 =>
 l6 x33 (
 (b7 .str .add v1 (.str [114,101,116,117,114,110,101,100,10])).bind fun x35 =>
 (b7 (.int .i64) .add v4 (.int .i64 1)).bind fun x37 =>
 some (none,[(strip v0),x35,v2,v3,x37],H30)) (
 (L4 (strip v0)).bind fun x40 =>
 (D9 x40 0).bind fun x41 =>
 (B2 o6 false false 1 x41 H30).bind fun r43 =>
 (B2 o6 true true 3 (.ptr r22.2.length 0) r43.2).bind fun r45 =>
 (pc aaP [(j6 r45.2 r45.1)]).bind fun x46 =>
 (pc aaq [(j6 r45.2 r43.1),(j6 r45.2 x46)]).bind fun x47 =>
 (C5 x47 0).bind fun x49 =>
 (C5 (aaA 0 x47) 1).bind fun x50 =>
 (C5 (aaA 0 x47) 2).bind fun x51 =>
 (L4 (strip (strip v0))).bind fun x57 =>
 (D9 x57 0).bind fun x58 =>
 (A8 x49).bind fun y60 =>
 (K8 x58 [y60] r45.2).bind fun H61 =>
 (b7 .str .add v1 (.str [112,97,115,115,101,100])).bind fun x63 =>
 (D6 (strip (strip (strip x50)))).bind fun x66 =>
 (z8 acr [(strip (strip (strip v0))),x63,v2,v3,v4,(strip (strip (strip x50))),x66,(.int .i64 0)] H61).bind fun r81 =>
 G0 r81.1 [
 y8 5 r81.2.1 fun v82 =>
 (b7 .str .add (v82 1) (.str [10])).bind fun x84 =>
 (b7 (.int .i64) .add (v82 4) (.int .i64 1)).bind fun x86 =>
 some (none,[(v82 0),x84,(v82 2),(v82 3),x86],r81.2.2)])) (
 some (some 0,[v0,v1],H)):=by kernel_rfl
theorem afM (a0:V) (H:VH):cv O1 [a0] H =
 (L4 a0).bind fun x3 =>
 (D9 x3 1).bind fun x4 =>
 (D9 x4 5).bind fun x5 =>
 (B2 o6 false false 1 x5 H).bind fun r7 =>
 (D6 r7.1).bind fun x8 =>
 (z8 afN [(strip a0),(.str []),r7.1,x8,(.int .i64 0)] r7.2).bind fun r88 =>
 G0 r88.1 [
 y8 2 r88.2.1 fun v89 =>
 (L4 (v89 0)).bind fun x91 =>
 (D9 x91 1).bind fun x92 =>
 (D9 x92 5).bind fun x93 =>
 (K8 x93 [(.sl true [])] r88.2.2).bind fun H95 =>
 (b7 .str .add (v89 1) (.str [101,110,100,10])).bind fun x97 =>
 some (x97,H95)]:=(j8 vb _ _ _ rfl).trans (by kernel_rfl)
theorem ak0 (a0 a1 a2:V) (H:VH):cv T0 [a0,a1,a2] H =
 (C9 3 a0).bind fun c1 =>
 (C9 7 a2).bind fun c3 =>
 (id (
 (qco Y0 H [(.agg [(strip (c1.getD 0 .c9)),(strip (c1.getD 1 .c9)),(strip (c1.getD 2 .c9))])]).bind fun x7 =>
 (D7 .not x7).bind fun x8 =>
 o7 x8 (
 some (0,[(.bool false),(.str []),(.sl true []),(.sl true [])],H)) (
 (qco L7 H [(.agg [(strip (c3.getD 0 .c9)),(strip (c3.getD 1 .c9)),(strip (c3.getD 2 .c9)),(strip (c3.getD 3 .c9)),(strip (c3.getD 4 .c9)),(strip (c3.getD 5 .c9)),(strip (c3.getD 6 .c9))])]).bind fun x21 =>
 (D7 .not x21).bind fun x22 =>
 o7 x22 (
 some (0,[(.bool false),(.str []),(.sl true []),(.sl true [])],H)) (
 (qco abC H [a1]).bind fun x34 =>
 (D7 .not x34).bind fun x35 =>
 o7 x35 (
 some (0,[(.bool false),(.str []),(.sl true []),(.sl true [])],H)) (
 (D6 (strip (c1.getD 2 .c9))).bind fun x46 =>
 (b7 (.int .i64) .eql x46 (.int .i64 30)).bind fun x47 =>
 o7 x47 (
 some (0,[(.bool false),(.str []),(.sl true []),(.sl true [])],H)) (
 (qco aee H [(.agg [(strip (c1.getD 0 .c9)),(strip (c1.getD 1 .c9)),(strip (c1.getD 2 .c9))])]).bind fun x55 =>
 (b7 (.int .i64) .geq x55 (.int .i64 5)).bind fun x56 =>
 l6 x56 (
 some (0,[(.bool false),(.str []),(.sl true []),(.sl true [])],H)) (
 some (1,[(strip a1),(c1.getD 0 .c9),(c1.getD 1 .c9),(c1.getD 2 .c9),(c3.getD 0 .c9),(c3.getD 1 .c9),(c3.getD 2 .c9),(c3.getD 3 .c9),(c3.getD 4 .c9),(c3.getD 5 .c9),(c3.getD 6 .c9),(.str []),(.sl true []),(.sl true [])],H)))))):Option (Nat × List V × VH))).bind fun r61 =>
 G0 r61.1 [
 y8 4 r61.2.1 fun v62 =>
 some ((.A4 [(.agg [(v62 1),(v62 2),(v62 3)]),(v62 0)]),r61.2.2),
 y8 14 r61.2.1 fun v63 =>
 (pco abA r61.2.2 [(.agg [(strip (v63 1)),(strip (v63 2)),(strip (v63 3))])]).bind fun x65 =>
 Z0 1 x65 r61.2.2 fun o66 h67 =>
 (C9 3 o66).bind fun c70 =>
 (b7 .str .add (.str [82,101,99,101,105,118,101,100,58,32,98,121,32]) (v63 0)).bind fun x74 =>
 (b7 .str .add x74 (.str [59,32])).bind fun x75 =>
 (qco V6 h67 [(.agg [(strip (v63 4)),(strip (v63 5)),(strip (v63 6)),(strip (v63 7)),(strip (v63 8)),(strip (v63 9)),(strip (v63 10))])]).bind fun x77 =>
 (b7 .str .add x75 x77).bind fun x78 =>
 (A8 x78).bind fun y80 =>
 (cv P3 [(c70.getD 2 .c9),(.int .i64 0),(.sl true [[y80]])] h67).bind fun r82 =>
 (A8 r82.1).bind fun y85 =>
 some ((.A4 [(.agg [(c70.getD 0 .c9),(c70.getD 1 .c9),y85]),(.bool true)]),r82.2)]:=(j8 vb _ _ _ rfl).trans (by kernel_rfl)
noncomputable def ajz:List V->VH->Option (Option Nat × List V × VH):=I4 (vb.ctx cv z8) (vb.b.M7 36) (vb.F7 36) ⟨⟨[3,7,8,9],[],[]⟩,[(.exit 0,⟨[3],[],[]⟩)]⟩ (I5 Tryz.f36 3)
theorem anf (v0 v1 v2 v3:V) (H:VH):ajz [v0,v1,v2,v3] H =
 (b7 (.int .i64) .lss v3 v2).bind fun x8 =>
 l6 x8 (
 (A6 1 v1 v3).bind fun x9 =>
 (B2 o6 false false 1 x9 H).bind fun r11 =>
 (b7 .str .eql r11.1 (.str [])).bind fun x14 =>
 l6 x14 (
 some (some 0,[v0],r11.2)) (
 (qc abb [(j6 r11.2 (strip r11.1))]).bind fun x16 =>
 (qc Y3 [(j6 r11.2 x16),(j6 r11.2 (.str [114,101,99,101,105,118,101,100,58]))]).bind fun x17 =>
 l6 x17 (
 (b7 (.int .i64) .add v0 (.int .i64 1)).bind fun x19 =>
 (b7 (.int .i64) .add v3 (.int .i64 1)).bind fun x21 =>
 some (none,[x19,v1,v2,x21],r11.2)) (
 (b7 (.int .i64) .add v3 (.int .i64 1)).bind fun x23 =>
 some (none,[v0,v1,v2,x23],r11.2)))) (
 some (some 0,[v0],H)):=by kernel_rfl
theorem aq4 (a0:V) (H:VH):cv aee [a0] H =
 (C9 3 a0).bind fun c1 =>
 (D6 (strip (c1.getD 2 .c9))).bind fun x6 =>
 (z8 ajz [(.int .i64 0),(strip (c1.getD 2 .c9)),x6,(.int .i64 0)] H).bind fun r25 =>
 G0 r25.1 [
 y8 1 r25.2.1 fun v26 =>
 some ((v26 0),r25.2.2)]:=(j8 vb _ _ _ rfl).trans (by kernel_rfl)
theorem aiz (a0 a1:V) (H:VH):cv Y3 [a0,a1] H =
 (qc O9 [(j6 H a0),(j6 H a1)]).bind fun x3 =>
 some (x3,H):=(j8 vb _ _ _ rfl).trans (by kernel_rfl)
noncomputable def afn:List V->VH->Option (Option Nat × List V × VH):=I4 (vb.ctx cv z8) (vb.b.M7 109) (vb.F7 109) ⟨⟨[3,13,14,15],[(2,(2,0))],[(2,3)]⟩,[(.exit 0,⟨[3],[(2,(2,0))],[(2,3)]⟩)]⟩ (I5 Tryz.f109 3)
theorem ah3 (v0 v1 v2 v3 v4 v5 v6:V) (H:VH):afn [v0,v1,v2,v3,v4,v5,v6] H =
 (b7 (.int .i64) .lss v3 v2).bind fun x18 =>
 l6 x18 (
 (A6 1 v1 v3).bind fun x19 =>
 (B2 o6 false false 1 x19 H).bind fun r21 =>
 (D9 v0 1).bind fun x23 =>
 (B2 o6 false false 1 x23 r21.2).bind fun r25 =>
 (qc N7 [(j6 r25.2 r25.1),(j6 r25.2 r21.1)]).bind fun x27 =>
 (D7 .not x27).bind fun x28 =>
 l6 x28 (
 (D9 v0 1).bind fun x29 =>
 (B2 o6 true false 1 x29 r25.2).bind fun r31 =>
 (A8 (strip r21.1)).bind fun y34 =>
 (aez r31.1).bind fun s36 =>
 (aay false 1 16 s36 (.sl true [[y34]])).bind fun x35 =>
 (D9 v0 1).bind fun x37 =>
 (A8 x35).bind fun y39 =>
 (K8 x37 [y39] r31.2).bind fun H40 =>
 (b7 (.int .i64) .add v3 (.int .i64 1)).bind fun x41 =>
 some (none,[v0,v1,v2,x41,v4,v5,v6],H40)) (
 (b7 (.int .i64) .add v3 (.int .i64 1)).bind fun x43 =>
 some (none,[v0,v1,v2,x43,v4,v5,v6],r25.2))) (
 some (some 0,[v0,v4,v5,v6],H)):=by kernel_rfl
theorem aj9 (a0:V) (H:VH):cv aaP [a0] H =
 (C9 3 a0).bind fun c1 =>
 (pc E5 [(j6 H (strip (c1.getD 2 .c9)))]).bind fun x7 =>
 (A8 (strip (c1.getD 0 .c9))).bind fun y9 =>
 (A8 x7).bind fun y10 =>
 (K8 (.ptr H.length 0) [y9,(.sl true []),y10] (H++[[(.str []),(.sl true []),(.sl true [])]])).bind fun H13 =>
 (D6 (strip (c1.getD 1 .c9))).bind fun x16 =>
 (z8 afn [(.ptr H.length 0),(strip (c1.getD 1 .c9)),x16,(.int .i64 0),(.str []),(.sl true []),(.sl true [])] H13).bind fun r45 =>
 G0 r45.1 [
 y8 4 r45.2.1 fun v46 =>
 (B2 o6 true true 3 (v46 0) r45.2.2).bind fun r48 =>
 (C9 3 r48.1).bind fun c50 =>
 some ((.agg [(c50.getD 0 .c9),(c50.getD 1 .c9),(c50.getD 2 .c9)]),r48.2)]:=(j8 vb _ _ _ rfl).trans (by kernel_rfl)
theorem acG (a0 a1:V) (H:VH):cv N7 [a0,a1] H =
 (qc P8 [(j6 H (strip a0)),(j6 H a1)]).bind fun x3 =>
 (b7 (.int .i64) .geq x3 (.int .i64 0)).bind fun x4 =>
 some (x4,H):=(j8 vb _ _ _ rfl).trans (by kernel_rfl)
noncomputable def K4:List V->VH->Option (Option Nat × List V × VH):=I4 (vb.ctx cv z8) (vb.b.M7 191) (vb.F7 191) ⟨⟨[0,1,7,8],[],[]⟩,[(.exit 0,⟨[],[],[]⟩),(.ret,⟨[4],[],[]⟩)]⟩ (I5 Tryz.f191 2)
theorem W7 (v0 v1 v2 v3:V) (H:VH):K4 [v0,v1,v2,v3] H =
 (b7 (.int .i64) .lss v3 v2).bind fun x4 =>
 l6 x4 (
 (A6 1 (strip v0) v3).bind fun x10 =>
 (B2 o6 false false 1 x10 H).bind fun r12 =>
 (b7 .str .eql v1 r12.1).bind fun x13 =>
 l6 x13 (
 some (some 1,[(strip v3)],r12.2)) (
 (b7 (.int .i64) .add (strip v3) (.int .i64 1)).bind fun x16 =>
 some (none,[v0,(strip v1),v2,x16],r12.2))) (
 some (some 0,[],H)):=by kernel_rfl
theorem adA (a0 a1:V) (H:VH):cv P8 [a0,a1] H =
 (D6 (strip a0)).bind fun x2 =>
 (z8 K4 [a0,a1,x2,(.int .i64 0)] H).bind fun r18 =>
 G0 r18.1 [
 y8 0 r18.2.1 fun v19 =>
 some ((.int .i64 (-1)),r18.2.2),
 y8 1 r18.2.1 fun v21 =>
 some ((v21 0),r18.2.2)]:=(j8 vb _ _ _ rfl).trans (by kernel_rfl)
noncomputable def abY:List V->VH->Option (Option Nat × List V × VH):=I4 (vb.ctx cv z8) (vb.b.M7 108) (vb.F7 108) ⟨⟨[7,8,25,26,27],[(3,(3,0))],[(3,3)]⟩,[(.exit 0,⟨[7,8],[],[]⟩)]⟩ (I5 Tryz.f108 5)
theorem aht (v0 v1 v2 v3 v4 v5 v6 v7:V) (H:VH):abY [v0,v1,v2,v3,v4,v5,v6,v7] H =
 (b7 (.int .i64) .lss v4 v3).bind fun x34 =>
 l6 x34 (
 (A6 1 v2 v4).bind fun x35 =>
 (B2 o6 false false 1 x35 H).bind fun r37 =>
 (qco aai r37.2 [(strip v0),r37.1]).bind fun x41 =>
 (C5 x41 0).bind fun x43 =>
 (C5 x41 1).bind fun x44 =>
 (D7 .not (strip x44)).bind fun x48 =>
 l6 x48 (
 (afr false false 1 8 v1 (.sl true [[(.int .i64 550)]]) r37.2).bind fun r53 =>
 (b7 (.int .i64) .add v4 (.int .i64 1)).bind fun x55 =>
 some (none,[v0,r53.1,v2,v3,x55,v5,v6,v7],r53.2)) (
 (A6 2 (strip v0) (strip x43)).bind fun x59 =>
 (D9 x59 1).bind fun x60 =>
 (B2 o6 false false 1 x60 r37.2).bind fun r62 =>
 (D6 r62.1).bind fun x63 =>
 (b7 (.int .i64) .eql x63 (.int .i64 4)).bind fun x64 =>
 l6 x64 (
 (afr false false 1 8 v1 (.sl true [[(.int .i64 452)]]) r62.2).bind fun r69 =>
 (b7 (.int .i64) .add v4 (.int .i64 1)).bind fun x71 =>
 some (none,[v0,r69.1,v2,v3,x71,v5,v6,v7],r69.2)) (
 (A6 2 (strip v0) (strip (strip (strip x43)))).bind fun x77 =>
 (D9 x77 1).bind fun x78 =>
 (B2 o6 true false 1 x78 r62.2).bind fun r80 =>
 (A8 (strip r37.1)).bind fun y85 =>
 (pco E5 r80.2 [(strip v7)]).bind fun x88 =>
 (A8 (strip v5)).bind fun y90 =>
 (A8 x88).bind fun y91 =>
 (afr false false 3 64 r80.1 (.sl true [[y90,(.sl true [[y85]]),y91]]) r80.2).bind fun r94 =>
 (A6 2 (strip v0) (strip (strip x43))).bind fun x95 =>
 (D9 x95 1).bind fun x96 =>
 (A8 r94.1).bind fun y98 =>
 (K8 x96 [y98] r94.2).bind fun H99 =>
 (afr false false 1 8 v1 (.sl true [[(.int .i64 250)]]) H99).bind fun r103 =>
 (b7 (.int .i64) .add v4 (.int .i64 1)).bind fun x105 =>
 some (none,[v0,r103.1,v2,v3,x105,v5,v6,v7],r103.2)))) (
 some (some 0,[v0,v1],H)):=by kernel_rfl
theorem aje (a0 a1:V) (H:VH):cv aaq [a0,a1] H =
 (C9 3 a1).bind fun c1 =>
 (id (
 (qco aaM H [(strip a0)]).bind fun x6 =>
 (D7 .not x6).bind fun x7 =>
 o7 x7 (
 some (0,[(.sl true []),(.sl true []),(.bool false)],H)) (
 (qco Y0 H [(.agg [(strip (c1.getD 0 .c9)),(strip (c1.getD 1 .c9)),(strip (c1.getD 2 .c9))])]).bind fun x14 =>
 (D7 .not x14).bind fun x15 =>
 l6 x15 (
 some (0,[(.sl true []),(.sl true []),(.bool false)],H)) (
 some (1,[a0,(c1.getD 0 .c9),(c1.getD 1 .c9),(c1.getD 2 .c9)],H))):Option (Nat × List V × VH))).bind fun r20 =>
 G0 r20.1 [
 y8 3 r20.2.1 fun v21 =>
 some ((.A4 [(v21 0),(v21 1),(v21 2)]),r20.2.2),
 y8 4 r20.2.1 fun v22 =>
 (pco X6 r20.2.2 [(strip (v22 0))]).bind fun x24 =>
 Z0 1 x24 r20.2.2 fun o25 h26 =>
 (D6 (strip (v22 2))).bind fun x32 =>
 (z8 abY [o25,(.sl true []),(strip (v22 2)),x32,(.int .i64 0),(v22 1),(v22 2),(v22 3)] h26).bind fun r107 =>
 G0 r107.1 [
 y8 2 r107.2.1 fun v108 =>
 some ((.A4 [(v108 0),(v108 1),(.bool true)]),r107.2.2)]]:=(j8 vb _ _ _ rfl).trans (by kernel_rfl)
noncomputable def aaL:List V->VH->Option (Option Nat × List V × VH):=I4 (vb.ctx cv z8) (vb.b.M7 77) (vb.F7 77) ⟨⟨[0,5,6,7],[],[]⟩,[(.exit 0,⟨[0],[],[]⟩),(.ret,⟨[2],[],[]⟩)]⟩ (I5 Tryz.f77 2)
theorem ad0 (v0 v1 v2 v3:V) (H:VH):aaL [v0,v1,v2,v3] H =
 (b7 (.int .i64) .lss v3 v2).bind fun x4 =>
 l6 x4 (
 (A6 2 v1 (strip v3)).bind fun x6 =>
 (B2 o6 false true 2 x6 H).bind fun r8 =>
 (C9 2 r8.1).bind fun c12 =>
 (qc abc [(j6 r8.2 (strip (c12.getD 0 .c9)))]).bind fun x15 =>
 (D7 .not x15).bind fun x16 =>
 o7 x16 (
 some (some 1,[(.bool false)],r8.2)) (
 (qc ack [(j6 r8.2 (strip (c12.getD 1 .c9))),(j6 r8.2 (.int .i64 4))]).bind fun x24 =>
 (D7 .not x24).bind fun x25 =>
 o7 x25 (
 some (some 1,[(.bool false)],r8.2)) (
 (b7 (.int .i64) .gtr v3 (.int .i64 0)).bind fun x31 =>
 o7 x31 (
 (b7 (.int .i64) .sub (strip v3) (.int .i64 1)).bind fun x35 =>
 (A6 2 (strip v0) x35).bind fun x36 =>
 (D9 x36 0).bind fun x37 =>
 (B2 o6 false false 1 x37 r8.2).bind fun r39 =>
 (b7 .str .geq r39.1 (strip (c12.getD 0 .c9))).bind fun x42 =>
 l6 x42 (
 some (some 1,[(.bool false)],r39.2)) (
 (b7 (.int .i64) .add (strip v3) (.int .i64 1)).bind fun x46 =>
 some (none,[v0,v1,v2,x46],r39.2))) (
 (b7 (.int .i64) .add (strip v3) (.int .i64 1)).bind fun x50 =>
 some (none,[v0,v1,v2,x50],r8.2))))) (
 some (some 0,[v0],H)):=by kernel_rfl
theorem ako (a0:V) (H:VH):cv aaM [a0] H =
 (D6 (strip a0)).bind fun x2 =>
 (z8 aaL [a0,(strip a0),x2,(.int .i64 0)] H).bind fun r52 =>
 G0 r52.1 [
 y8 1 r52.2.1 fun v53 =>
 (D6 (strip (v53 0))).bind fun x55 =>
 (b7 (.int .i64) .leq x55 (.int .i64 8)).bind fun x56 =>
 some (x56,r52.2.2),
 y8 1 r52.2.1 fun v58 =>
 some ((v58 0),r52.2.2)]:=(j8 vb _ _ _ rfl).trans (by kernel_rfl)
noncomputable def afI:List V->VH->Option (Option Nat × List V × VH):=I4 (vb.ctx cv z8) (vb.b.M7 80) (vb.F7 80) ⟨⟨[3,7,8,9],[],[]⟩,[(.exit 0,⟨[3],[],[]⟩)]⟩ (I5 Tryz.f80 3)
theorem aiH (v0 v1 v2 v3:V) (H:VH):afI [v0,v1,v2,v3] H =
 (b7 (.int .i64) .lss v3 v2).bind fun x6 =>
 l6 x6 (
 (A6 2 v1 v3).bind fun x7 =>
 (B2 o6 true true 2 x7 H).bind fun r9 =>
 (C9 2 r9.1).bind fun c12 =>
 (pc aa1 [(j6 r9.2 (strip (c12.getD 1 .c9)))]).bind fun x18 =>
 (A8 (strip (c12.getD 0 .c9))).bind fun y20 =>
 (A8 x18).bind fun y21 =>
 (aez v0).bind fun s24 =>
 (aay false 2 40 s24 (.sl true [[y20,y21]])).bind fun x23 =>
 (b7 (.int .i64) .add v3 (.int .i64 1)).bind fun x26 =>
 some (none,[x23,v1,v2,x26],r9.2)) (
 some (some 0,[v0],H)):=by kernel_rfl
theorem ala (a0:V) (H:VH):cv X6 [a0] H =
 (D6 (strip a0)).bind fun x4 =>
 (z8 afI [(.sl true []),(strip a0),x4,(.int .i64 0)] H).bind fun r28 =>
 G0 r28.1 [
 y8 1 r28.2.1 fun v29 =>
 some ((v29 0),r28.2.2)]:=(j8 vb _ _ _ rfl).trans (by kernel_rfl)
theorem al0 (a0 a1:V) (H:VH):cv aai [a0,a1] H =
 (qc D0 [(j6 H (strip a0)),(j6 H a1),(j6 H (.fn K0 []))]).bind fun x4 =>
 (C5 x4 0).bind fun x5 =>
 (C5 x4 1).bind fun x6 =>
 some ((.A4 [(strip x5),(strip x6)]),H):=(j8 vb _ _ _ rfl).trans (by kernel_rfl)
noncomputable def K1:List V->VH->Option (Option Nat × List V × VH):=I4 (vb.ctx cv z8) (vb.b.M7 113) (vb.F7 113) ⟨⟨[0,1,2,8,9,10],[],[]⟩,[(.exit 0,⟨[0,1,2,8,9],[],[]⟩)]⟩ (I5 Tryz.f113 3)
theorem T9 (v0 v1 v2 v3 v4 v5:V) (H:VH):K1 [v0,v1,v2,v3,v4,v5] H =
 (b7 (.int .i64) .lss v4 v5).bind fun x10 =>
 l6 x10 (
 (b7 (.int .i64) .add (strip v4) (strip v5)).bind fun x13 =>
 (S7 .u64 x13).bind fun x14 =>
 (b7 (.int .u64) .shr x14 (.int .u64 1)).bind fun x15 =>
 (S7 .i64 x15).bind fun x16 =>
 (A6 2 (strip v0) x16).bind fun x21 =>
 (B2 o6 false true 2 x21 H).bind fun r23 =>
 (adX v2).bind fun p26 =>
 (qc p26.1 ((([r23.1,v1]:List V)++p26.2).map (j6 r23.2))).bind fun x25 =>
 (b7 (.int .i64) .lss x25 (.int .i64 0)).bind fun x27 =>
 l6 x27 (
 (b7 (.int .i64) .add (strip x16) (.int .i64 1)).bind fun x29 =>
 some (none,[v0,(strip v1),(strip v2),v3,x29,(strip (strip v5))],r23.2)) (
 some (none,[v0,(strip v1),(strip v2),v3,(strip (strip v4)),(strip x16)],r23.2))) (
 some (some 0,[v0,v1,v2,v3,(strip v4)],H)):=by kernel_rfl
theorem W3 (a0 a1 a2:V) (H:VH):cv D0 [a0,a1,a2] H =
 (D6 (strip a0)).bind fun x3 =>
 (z8 K1 [a0,a1,a2,(strip x3),(.int .i64 0),x3] H).bind fun r33 =>
 G0 r33.1 [
 y8 5 r33.2.1 fun v34 =>
 (b7 (.int .i64) .lss (strip (v34 4)) (v34 3)).bind fun x38 =>
 o7 x38 (
 (A6 2 (strip (v34 0)) (strip (strip (v34 4)))).bind fun x43 =>
 (B2 o6 false true 2 x43 r33.2.2).bind fun r45 =>
 (adX (v34 2)).bind fun p48 =>
 (qc p48.1 ((([r45.1,(v34 1)]:List V)++p48.2).map (j6 r45.2))).bind fun x47 =>
 (b7 (.int .i64) .eql x47 (.int .i64 0)).bind fun x49 =>
 some ((.A4 [(v34 4),x49]),r45.2)) (
 some ((.A4 [(v34 4),(.bool false)]),r33.2.2))]:=(j8 vb _ _ _ rfl).trans (by kernel_rfl)
theorem ajX (a0 a1:V) (H:VH):cv K0 [a0,a1] H =
 (C9 2 a0).bind fun c1 =>
 (qc aaW [(j6 H (strip (c1.getD 0 .c9))),(j6 H a1)]).bind fun x6 =>
 some (x6,H):=(j8 vb _ _ _ rfl).trans (by kernel_rfl)
theorem ahs (a0 a1:V) (H:VH):cv aaW [a0,a1] H =
 (qc Y2 [(j6 H a0)]).bind fun x2 =>
 (qc Y2 [(j6 H a1)]).bind fun x5 =>
 l6 x2 (
 l6 x5 (
 some ((.int .i64 0),H)) (
 some ((.int .i64 (-1)),H))) (
 l6 x5 (
 some ((.int .i64 1),H)) (
 (b7 .str .lss (strip a0) (strip a1)).bind fun x15 =>
 l6 x15 (
 some ((.int .i64 (-1)),H)) (
 (b7 .str .gtr (strip (strip a0)) (strip (strip a1))).bind fun x19 =>
 l6 x19 (
 some ((.int .i64 1),H)) (
 some ((.int .i64 0),H))))):=(j8 vb _ _ _ rfl).trans (by kernel_rfl)
theorem ain (a0:V) (H:VH):cv Y2 [a0] H =
 (b7 .str .neq a0 (strip a0)).bind fun x3 =>
 some (x3,H):=(j8 vb _ _ _ rfl).trans (by kernel_rfl)
noncomputable def afL:List V->VH->Option (Option Nat × List V × VH):=I4 (vb.ctx cv z8) (vb.b.M7 52) (vb.F7 52) ⟨⟨[8,32,33,34],[],[]⟩,[(.exit 0,⟨[8],[],[]⟩)]⟩ (I5 Tryz.f52 7)
theorem aiL (v0 v1 v2 v3:V) (H:VH):afL [v0,v1,v2,v3] H =
 (b7 (.int .i64) .lss v3 v2).bind fun x36 =>
 l6 x36 (
 (A6 1 v1 v3).bind fun x37 =>
 (B2 o6 false false 1 x37 H).bind fun r39 =>
 (b7 .str .add (.str [62,32]) r39.1).bind fun x43 =>
 (b7 .str .add x43 (.str [10])).bind fun x44 =>
 (b7 .str .add v0 x44).bind fun x45 =>
 (b7 (.int .i64) .add v3 (.int .i64 1)).bind fun x47 =>
 some (none,[x45,v1,v2,x47],r39.2)) (
 some (some 0,[v0],H)):=by kernel_rfl
theorem alg (a0 a1:V) (H:VH):cv X7 [a0,a1] H =
 (L4 a0).bind fun x2 =>
 (D9 x2 0).bind fun x3 =>
 (B2 o6 false false 1 x3 H).bind fun r5 =>
 (pc K6 [(j6 r5.2 r5.1),(j6 r5.2 a1)]).bind fun x7 =>
 (C5 x7 0).bind fun x9 =>
 (C5 (aaA 0 x7) 1).bind fun x10 =>
 (C5 (aaA 0 x7) 2).bind fun x11 =>
 (C9 3 (strip x10)).bind fun c15 =>
 (D7 .not (strip x11)).bind fun x18 =>
 l6 x18 (
 some ((.str [119,104,97,116,10]),r5.2)) (
 (L4 (strip a0)).bind fun x22 =>
 (D9 x22 0).bind fun x23 =>
 (A8 x9).bind fun y25 =>
 (K8 x23 [y25] r5.2).bind fun H26 =>
 (b7 .str .add (.str [102,114,111,109,32,60]) (strip (c15.getD 0 .c9))).bind fun x29 =>
 (b7 .str .add x29 (.str [62,10])).bind fun x30 =>
 (D6 (strip (c15.getD 2 .c9))).bind fun x34 =>
 (z8 afL [x30,(strip (c15.getD 2 .c9)),x34,(.int .i64 0)] H26).bind fun r49 =>
 G0 r49.1 [
 y8 1 r49.2.1 fun v50 =>
 (b7 .str .add (v50 0) (.str [101,110,100,10])).bind fun x52 =>
 some (x52,r49.2.2)]):=(j8 vb _ _ _ rfl).trans (by kernel_rfl)
theorem abD (a0 a1:V) (H:VH):cv K6 [a0,a1] H =
 (qco aai H [(strip a0),a1]).bind fun x5 =>
 (C5 x5 0).bind fun x7 =>
 (C5 x5 1).bind fun x8 =>
 (id (
 (qco aaM H [(strip a0)]).bind fun x12 =>
 (D7 .not x12).bind fun x13 =>
 o7 x13 (
 some (0,[(.sl true []),(.bool false),(.str []),(.sl true []),(.sl true [])],H)) (
 (D7 .not (strip x8)).bind fun x23 =>
 o7 x23 (
 some (0,[(.sl true []),(.bool false),(.str []),(.sl true []),(.sl true [])],H)) (
 (A6 2 (strip a0) (strip x7)).bind fun x33 =>
 (D9 x33 1).bind fun x34 =>
 (B2 o6 false false 1 x34 H).bind fun r36 =>
 (D6 r36.1).bind fun x37 =>
 (b7 (.int .i64) .eql x37 (.int .i64 0)).bind fun x38 =>
 l6 x38 (
 some (0,[(.sl true []),(.bool false),(.str []),(.sl true []),(.sl true [])],r36.2)) (
 some (1,[a0,(strip (strip x7)),(.str []),(.sl true []),(.sl true [])],r36.2)))):Option (Nat × List V × VH))).bind fun r44 =>
 G0 r44.1 [
 y8 5 r44.2.1 fun v45 =>
 some ((.A4 [(v45 0),(.agg [(v45 2),(v45 3),(v45 4)]),(v45 1)]),r44.2.2),
 y8 5 r44.2.1 fun v46 =>
 (pco X6 r44.2.2 [(strip (v46 0))]).bind fun x48 =>
 Z0 2 x48 r44.2.2 fun o49 h50 =>
 (A6 2 (strip o49) (v46 1)).bind fun x54 =>
 (D9 x54 1).bind fun x55 =>
 (B2 o6 false false 1 x55 h50).bind fun r57 =>
 (A6 3 r57.1 (.int .i64 0)).bind fun x58 =>
 (B2 o6 true true 3 x58 r57.2).bind fun r60 =>
 (C9 3 r60.1).bind fun c63 =>
 (A6 2 (strip o49) (strip (strip (v46 1)))).bind fun x68 =>
 (D9 x68 1).bind fun x69 =>
 (B2 o6 false false 1 x69 r60.2).bind fun r71 =>
 (cv L2 [(strip r71.1),(.int .i64 0),(.int .i64 1)] r71.2).bind fun r73 =>
 (A6 2 (strip o49) (strip (v46 1))).bind fun x74 =>
 (D9 x74 1).bind fun x75 =>
 (A8 r73.1).bind fun y77 =>
 (K8 x75 [y77] r73.2).bind fun H78 =>
 some ((.A4 [o49,(.agg [(c63.getD 0 .c9),(c63.getD 1 .c9),(c63.getD 2 .c9)]),(.bool true)]),H78)]:=(j8 vb _ _ _ rfl).trans (by kernel_rfl)
theorem akV (a0:V) (H:VH):cv acX [a0] H =
 (qc aa3 [(j6 H a0)]).bind fun x3 =>
 (D7 .not x3).bind fun x4 =>
 l6 x4 (
 some ((.A4 [(.agg [(.int .i64 0),(.int .i64 0),(.int .i64 0),(.int .i64 0),(.int .i64 0),(.int .i64 0),(.int .i64 0)]),(.bool false)]),H)) (
 (qc U2 [(j6 H (strip a0)),(j6 H (.str [44]))]).bind fun x9 =>
 (C5 x9 0).bind fun x11 =>
 (C5 x9 1).bind fun x12 =>
 (C5 x9 2).bind fun x13 =>
 (id (
 (D7 .not (strip x13)).bind fun x18 =>
 l6 x18 (
 some (0,[(strip x11),(strip (strip a0)),(strip (strip x13)),(.int .i64 0),(.int .i64 0),(.int .i64 0),(.int .i64 0),(.int .i64 0),(.int .i64 0),(.int .i64 0)],H)) (
 some (0,[(strip x11),(strip x12),(strip (strip x13)),(.int .i64 0),(.int .i64 0),(.int .i64 0),(.int .i64 0),(.int .i64 0),(.int .i64 0),(.int .i64 0)],H)):Option (Nat × List V × VH))).bind fun r21 =>
 G0 r21.1 [
 y8 10 r21.2.1 fun v22 =>
 (pcg J4 r21.2.2 [(v22 1),(.str [32])]).bind fun r25 =>
 (cv M4 [(strip r25.1),(.fn aap [])] r25.2).bind fun r27 =>
 (A8 r27.1).bind fun y30 =>
 (K8 (.ptr r27.2.length 0) [y30] (r27.2++[[(.sl true [])]])).bind fun H31 =>
 (B2 o6 false false 1 (.ptr r27.2.length 0) H31).bind fun r33 =>
 (D6 r33.1).bind fun x34 =>
 (b7 (.int .i64) .neq x34 (.int .i64 5)).bind fun x35 =>
 l6 x35 (
 some ((.A4 [(.agg [(.int .i64 0),(.int .i64 0),(.int .i64 0),(.int .i64 0),(.int .i64 0),(.int .i64 0),(.int .i64 0)]),(.bool false)]),r33.2)) (
 (B2 o6 false false 1 (.ptr r27.2.length 0) r33.2).bind fun r40 =>
 (A6 1 r40.1 (.int .i64 0)).bind fun x41 =>
 (B2 o6 false false 1 x41 r40.2).bind fun r43 =>
 (qc Q6 [(j6 r43.2 r43.1),(j6 r43.2 (.int .i64 1)),(j6 r43.2 (.int .i64 2))]).bind fun x44 =>
 (C5 x44 0).bind fun x46 =>
 (C5 x44 1).bind fun x47 =>
 (agi o6 12 1 (.gp 0 0)).bind fun x50 =>
 (qcd D4 r43.2 [x50,(.fn abV [(.ptr r27.2.length 0)])]).bind fun x52 =>
 (b7 (.int .i64) .add x52 (.int .i64 1)).bind fun x53 =>
 (B2 o6 false false 1 (.ptr r27.2.length 0) r43.2).bind fun r56 =>
 (A6 1 r56.1 (.int .i64 2)).bind fun x57 =>
 (B2 o6 false false 1 x57 r56.2).bind fun r59 =>
 (qc Q6 [(j6 r59.2 r59.1),(j6 r59.2 (.int .i64 4)),(j6 r59.2 (.int .i64 4))]).bind fun x60 =>
 (C5 x60 0).bind fun x62 =>
 (C5 x60 1).bind fun x63 =>
 (B2 o6 false false 1 (.ptr r27.2.length 0) r59.2).bind fun r67 =>
 (A6 1 r67.1 (.int .i64 3)).bind fun x68 =>
 (B2 o6 false false 1 x68 r67.2).bind fun r70 =>
 (pc ac0 [(j6 r70.2 r70.1)]).bind fun x71 =>
 (C5 x71 0).bind fun x73 =>
 (C5 x71 1).bind fun x74 =>
 (C9 3 (strip x73)).bind fun c77 =>
 (K8 (.ptr r70.2.length 0) [(c77.getD 0 .c9),(c77.getD 1 .c9),(c77.getD 2 .c9)] (r70.2++[[(.int .i64 0),(.int .i64 0),(.int .i64 0)]])).bind fun H78 =>
 (B2 o6 false false 1 (.ptr r27.2.length 0) H78).bind fun r81 =>
 (A6 1 r81.1 (.int .i64 4)).bind fun x82 =>
 (B2 o6 false false 1 x82 r81.2).bind fun r84 =>
 (qc ac6 [(j6 r84.2 r84.1)]).bind fun x85 =>
 (C5 x85 0).bind fun x87 =>
 (C5 x85 1).bind fun x88 =>
 (X9 3 1 (.ptr r70.2.length 0) (.int .i64 0)).bind fun x94 =>
 (B2 o6 false false 1 x94 r84.2).bind fun r96 =>
 (X9 3 1 (.ptr r70.2.length 0) (.int .i64 1)).bind fun x97 =>
 (B2 o6 false false 1 x97 r96.2).bind fun r99 =>
 (X9 3 1 (.ptr r70.2.length 0) (.int .i64 2)).bind fun x100 =>
 (B2 o6 false false 1 x100 r99.2).bind fun r102 =>
 (A8 (strip x62)).bind fun y105 =>
 (A8 x53).bind fun y106 =>
 (A8 (strip x46)).bind fun y107 =>
 (A8 r96.1).bind fun y108 =>
 (A8 r99.1).bind fun y109 =>
 (A8 r102.1).bind fun y110 =>
 (A8 (strip x87)).bind fun y111 =>
 (id (
 (D7 .not (strip x47)).bind fun x115 =>
 o7 x115 (
 some (0,[(.bool false),(.int .i64 0),(.int .i64 0),(.int .i64 0),(.int .i64 0),(.int .i64 0),(.int .i64 0),(.int .i64 0)],r102.2)) (
 (D7 .not (strip x63)).bind fun x130 =>
 o7 x130 (
 some (0,[(.bool false),(.int .i64 0),(.int .i64 0),(.int .i64 0),(.int .i64 0),(.int .i64 0),(.int .i64 0),(.int .i64 0)],r102.2)) (
 (D7 .not (strip x74)).bind fun x144 =>
 o7 x144 (
 some (0,[(.bool false),(.int .i64 0),(.int .i64 0),(.int .i64 0),(.int .i64 0),(.int .i64 0),(.int .i64 0),(.int .i64 0)],r102.2)) (
 (D7 .not (strip x88)).bind fun x156 =>
 o7 x156 (
 some (0,[(.bool false),(.int .i64 0),(.int .i64 0),(.int .i64 0),(.int .i64 0),(.int .i64 0),(.int .i64 0),(.int .i64 0)],r102.2)) (
 (qc L7 [(j6 r102.2 (.agg [(strip y105),(strip y106),(strip y107),(strip y108),(strip y109),(strip y110),(strip y111)]))]).bind fun x166 =>
 (D7 .not x166).bind fun x167 =>
 o7 x167 (
 some (0,[(.bool false),(.int .i64 0),(.int .i64 0),(.int .i64 0),(.int .i64 0),(.int .i64 0),(.int .i64 0),(.int .i64 0)],r102.2)) (
 o7 (v22 2) (
 (qc agU [(j6 r102.2 (v22 0)),(j6 r102.2 (.str [32]))]).bind fun x177 =>
 (qc aa5 [(j6 r102.2 (.agg [(strip y105),(strip y106),(strip y107),(strip y108),(strip y109),(strip y110),(strip y111)]))]).bind fun x179 =>
 (qc agM [(j6 r102.2 x177),(j6 r102.2 x179)]).bind fun x180 =>
 (D7 .not x180).bind fun x181 =>
 l6 x181 (
 some (0,[(.bool false),(.int .i64 0),(.int .i64 0),(.int .i64 0),(.int .i64 0),(.int .i64 0),(.int .i64 0),(.int .i64 0)],r102.2)) (
 some (1,[(v22 3),(v22 4),(v22 5),(v22 6),(v22 7),(v22 8),(v22 9),y105,y106,y107,y108,y109,y110,y111],r102.2))) (
 some (1,[(v22 3),(v22 4),(v22 5),(v22 6),(v22 7),(v22 8),(v22 9),y105,y106,y107,y108,y109,y110,y111],r102.2))))))):Option (Nat × List V × VH))).bind fun r189 =>
 G0 r189.1 [
 y8 8 r189.2.1 fun v190 =>
 some ((.A4 [(.agg [(v190 1),(v190 2),(v190 3),(v190 4),(v190 5),(v190 6),(v190 7)]),(v190 0)]),r189.2.2),
 y8 14 r189.2.1 fun v191 =>
 some ((.A4 [(.agg [(strip (v191 7)),(strip (v191 8)),(strip (v191 9)),(strip (v191 10)),(strip (v191 11)),(strip (v191 12)),(strip (v191 13))]),(.bool true)]),r189.2.2)])]):=(j8 vb _ _ _ rfl).trans (by kernel_rfl)
noncomputable def ahV:List V->VH->Option (Option Nat × List V × VH):=I4 (vb.ctx cv z8) (vb.b.M7 84) (vb.F7 84) ⟨⟨[0,8,22,23],[],[]⟩,[(.exit 0,⟨[8],[],[]⟩)]⟩ (I5 Tryz.f84 5)
theorem ak9 (v0 v1 v2 v3:V) (H:VH):ahV [v0,v1,v2,v3] H =
 (b7 (.int .i64) .lss v3 v2).bind fun x25 =>
 l6 x25 (
 (b7 (.int .i64) .mul (.int .i64 10) v1).bind fun x29 =>
 (H8 v0 v3).bind fun x32 =>
 (b7 (.int .u8) .sub x32 (.int .u8 48)).bind fun x33 =>
 (S7 .i64 x33).bind fun x34 =>
 (b7 (.int .i64) .add x29 x34).bind fun x35 =>
 (b7 (.int .i64) .add (strip v3) (.int .i64 1)).bind fun x37 =>
 some (none,[(strip v0),x35,v2,x37],H)) (
 some (some 0,[v1],H)):=by kernel_rfl
theorem aoO (a0 a1 a2:V) (H:VH):cv Q6 [a0,a1,a2] H =
 (id (
 (F8 a0).bind fun x3 =>
 (qc H4 [(j6 H x3),(j6 H a1),(j6 H a2)]).bind fun x6 =>
 (D7 .not x6).bind fun x7 =>
 o7 x7 (
 some (0,[(.int .i64 0),(.bool false)],H)) (
 (qc aah [(j6 H (strip a0)),(j6 H (.fn R8 []))]).bind fun x13 =>
 (D7 .not x13).bind fun x14 =>
 l6 x14 (
 some (0,[(.int .i64 0),(.bool false)],H)) (
 some (1,[(strip (strip a0))],H))):Option (Nat × List V × VH))).bind fun r18 =>
 G0 r18.1 [
 y8 2 r18.2.1 fun v19 =>
 some ((.A4 [(v19 0),(v19 1)]),r18.2.2),
 y8 1 r18.2.1 fun v20 =>
 (F8 (v20 0)).bind fun x23 =>
 (z8 ahV [(strip (v20 0)),(.int .i64 0),x23,(.int .i64 0)] r18.2.2).bind fun r39 =>
 G0 r39.1 [
 y8 1 r39.2.1 fun v40 =>
 some ((.A4 [(v40 0),(.bool true)]),r39.2.2)]]:=(j8 vb _ _ _ rfl).trans (by kernel_rfl)
noncomputable def O0:List V->VH->Option (Option Nat × List V × VH):=I4 (vb.ctx cv z8) (vb.b.M7 87) (vb.F7 87) ⟨⟨[4,18,19,20],[(2,(2,0))],[(2,3)]⟩,[(.exit 0,⟨[4],[(2,(2,0))],[(2,3)]⟩),(.ret,⟨[3],[(2,(2,0))],[(2,3)]⟩)]⟩ (I5 Tryz.f87 5)
theorem Z1 (v0 v1 v2 v3 v4 v5 v6:V) (H:VH):O0 [v0,v1,v2,v3,v4,v5,v6] H =
 (b7 (.int .i64) .lss v3 v2).bind fun x21 =>
 l6 x21 (
 (A6 1 v1 (strip v3)).bind fun x23 =>
 (B2 o6 false false 1 x23 H).bind fun r25 =>
 (qc Q6 [(j6 r25.2 r25.1),(j6 r25.2 (.int .i64 2)),(j6 r25.2 (.int .i64 2))]).bind fun x29 =>
 (C5 x29 0).bind fun x31 =>
 (C5 x29 1).bind fun x32 =>
 (D7 .not (strip x32)).bind fun x36 =>
 l6 x36 (
 (B2 o6 false true 3 v0 r25.2).bind fun r38 =>
 (C9 3 r38.1).bind fun c40 =>
 some (some 1,[(.bool false),(c40.getD 0 .c9),(c40.getD 1 .c9),(c40.getD 2 .c9)],r38.2)) (
 (X9 3 1 v0 v3).bind fun x44 =>
 (A8 (strip x31)).bind fun y46 =>
 (K8 x44 [y46] r25.2).bind fun H47 =>
 (b7 (.int .i64) .add (strip v3) (.int .i64 1)).bind fun x48 =>
 some (none,[v0,v1,v2,x48,v4,v5,v6],H47))) (
 some (some 0,[v0,v4,v5,v6],H)):=by kernel_rfl
theorem ak3 (a0:V) (H:VH):cv ac0 [a0] H =
 (pc J4 [(j6 H a0),(j6 H (.str [58]))]).bind fun x4 =>
 (K8 (.ptr H.length 0) [(.int .i64 0),(.int .i64 0),(.int .i64 0)] (H++[[(.int .i64 0),(.int .i64 0),(.int .i64 0)]])).bind fun H7 =>
 (D6 (strip (strip x4))).bind fun x10 =>
 (qc H4 [(j6 H7 x10),(j6 H7 (.int .i64 2)),(j6 H7 (.int .i64 3))]).bind fun x11 =>
 (D7 .not x11).bind fun x12 =>
 l6 x12 (
 (B2 o6 false true 3 (.ptr H.length 0) H7).bind fun r14 =>
 (C9 3 r14.1).bind fun c16 =>
 some ((.A4 [(.agg [(c16.getD 0 .c9),(c16.getD 1 .c9),(c16.getD 2 .c9)]),(.bool false)]),r14.2)) (
 (D6 (strip (strip x4))).bind fun x19 =>
 (z8 O0 [(.ptr H.length 0),(strip (strip x4)),x19,(.int .i64 0),(.int .i64 0),(.int .i64 0),(.int .i64 0)] H7).bind fun r50 =>
 G0 r50.1 [
 y8 4 r50.2.1 fun v51 =>
 (B2 o6 false true 3 (v51 0) r50.2.2).bind fun r53 =>
 (C9 3 r53.1).bind fun c55 =>
 some ((.A4 [(.agg [(c55.getD 0 .c9),(c55.getD 1 .c9),(c55.getD 2 .c9)]),(.bool true)]),r53.2),
 y8 4 r50.2.1 fun v57 =>
 some ((.A4 [(.agg [(v57 1),(v57 2),(v57 3)]),(v57 0)]),r50.2.2)]):=(j8 vb _ _ _ rfl).trans (by kernel_rfl)
theorem alc (a0:V) (H:VH):cv ac6 [a0] H =
 (id (
 (b7 .str .eql a0 (.str [71,77,84])).bind fun x3 =>
 o7 x3 (
 some (0,[(.int .i64 0),(.bool true)],H)) (
 (b7 .str .eql (strip a0) (.str [85,84])).bind fun x9 =>
 l6 x9 (
 some (0,[(.int .i64 0),(.bool true)],H)) (
 some (1,[(strip (strip a0))],H))):Option (Nat × List V × VH))).bind fun r13 =>
 G0 r13.1 [
 y8 2 r13.2.1 fun v14 =>
 some ((.A4 [(v14 0),(v14 1)]),r13.2.2),
 y8 1 r13.2.1 fun v15 =>
 (id (
 (F8 (v15 0)).bind fun x17 =>
 (b7 (.int .i64) .neq x17 (.int .i64 5)).bind fun x18 =>
 o7 x18 (
 some (0,[(.int .i64 0),(.bool false)],r13.2.2)) (
 (H8 (strip (v15 0)) (.int .i64 0)).bind fun x24 =>
 (b7 (.int .u8) .neq x24 (.int .u8 43)).bind fun x25 =>
 o7 x25 (
 (H8 (strip (strip (v15 0))) (.int .i64 0)).bind fun x28 =>
 (b7 (.int .u8) .neq x28 (.int .u8 45)).bind fun x29 =>
 l6 x29 (
 some (0,[(.int .i64 0),(.bool false)],r13.2.2)) (
 some (1,[(strip (strip (strip (v15 0))))],r13.2.2))) (
 some (1,[(strip (strip (v15 0)))],r13.2.2))):Option (Nat × List V × VH))).bind fun r36 =>
 G0 r36.1 [
 y8 2 r36.2.1 fun v37 =>
 some ((.A4 [(v37 0),(v37 1)]),r36.2.2),
 y8 1 r36.2.1 fun v38 =>
 (H5 (v38 0) (some (.int .i64 1)) (some (.int .i64 3))).bind fun x40 =>
 (qc Q6 [(j6 r36.2.2 x40),(j6 r36.2.2 (.int .i64 2)),(j6 r36.2.2 (.int .i64 2))]).bind fun x41 =>
 (C5 x41 0).bind fun x43 =>
 (C5 x41 1).bind fun x44 =>
 (H5 (strip (v38 0)) (some (.int .i64 3)) none).bind fun x48 =>
 (qc Q6 [(j6 r36.2.2 x48),(j6 r36.2.2 (.int .i64 2)),(j6 r36.2.2 (.int .i64 2))]).bind fun x49 =>
 (C5 x49 0).bind fun x51 =>
 (C5 x49 1).bind fun x52 =>
 (b7 (.int .i64) .mul (.int .i64 60) (strip x43)).bind fun x56 =>
 (b7 (.int .i64) .add x56 (strip x51)).bind fun x58 =>
 (id (
 (H8 (strip (strip (v38 0))) (.int .i64 0)).bind fun x61 =>
 (b7 (.int .u8) .eql x61 (.int .u8 45)).bind fun x62 =>
 l6 x62 (
 (D7 .neg x58).bind fun x64 =>
 some (0,[(strip x44),(strip (strip x51)),(strip x52),x64],r36.2.2)) (
 some (0,[(strip x44),(strip (strip x51)),(strip x52),x58],r36.2.2)):Option (Nat × List V × VH))).bind fun r66 =>
 G0 r66.1 [
 y8 4 r66.2.1 fun v67 =>
 o7 (v67 0) (
 o7 (v67 2) (
 (b7 (.int .i64) .leq (v67 1) (.int .i64 59)).bind fun x75 =>
 some ((.A4 [(v67 3),x75]),r66.2.2)) (
 some ((.A4 [(v67 3),(.bool false)]),r66.2.2))) (
 some ((.A4 [(v67 3),(.bool false)]),r66.2.2))]]]:=(j8 vb _ _ _ rfl).trans (by kernel_rfl)
end Go.Proofs.YtaapfgpeeghmeaaGreatDoor.Q
