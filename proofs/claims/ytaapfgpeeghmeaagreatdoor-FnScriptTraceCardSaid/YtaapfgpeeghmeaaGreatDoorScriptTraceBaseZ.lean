/- The program's functions, types and marks, as the machines take them. -/
import Derived.Test.YtaapfgpeeghmeaaGreatDoorProg
import Derived.Test.YtaapfgpeeghmeaaGreatDoorFnScriptTraceK4
import Derived.KernelRfl
namespace Go.Proofs.YtaapfgpeeghmeaaGreatDoor.Q
open Go Go.AM Go.Proofs Go.Shelf
set_option linter.unusedVariables false
def abo:Nat:=3
def aaV:Nat:=5
def abk:Nat:=14
def ab2:Nat:=26
def aeH:Nat:=38
def F9:Nat:=58
def Q4:Nat:=56
def acD:Nat:=64
def acx:Nat:=66
def aad:Nat:=65
def acz:Nat:=67
def ab3:Nat:=37
def V6:Nat:=6
def L7:Nat:=15
def aac:Nat:=40
def H4:Nat:=39
def acS:Nat:=41
def abx:Nat:=42
def V4:Nat:=43
def aa5:Nat:=16
def B6:Nat:=17
def W2:Nat:=7
def aa6:Nat:=18
def adp:Nat:=44
def X5:Nat:=45
def ac1:Nat:=19
def Q5:Nat:=20
def adK:Nat:=21
def X1:Nat:=22
def aaZ:Nat:=8
def ab7:Nat:=23
def acE:Nat:=46
def J4:Nat:=24
def aar:Nat:=47
def ajx:Nat:=68
def adb:Nat:=103
def ado:Nat:=69
def adB:Nat:=70
def N1:Nat:=106
def P4:Nat:=150
def E8:Nat:=25
def U2:Nat:=48
def V8:Nat:=71
def adL:Nat:=49
def ad8:Nat:=50
def acf:Nat:=59
def aeT:Nat:=98
def abc:Nat:=78
def aef:Nat:=117
def C8:Nat:=31
def D4:Nat:=61
def aa4:Nat:=163
def ac4:Nat:=164
def aah:Nat:=123
def aaJ:Nat:=172
def adE:Nat:=199
def R8:Nat:=124
def abC:Nat:=118
def aaB:Nat:=165
def ad3:Nat:=166
def aa0:Nat:=195
def Y7:Nat:=99
def adJ:Nat:=100
def aaS:Nat:=147
def aa3:Nat:=33
def ack:Nat:=116
def I9:Nat:=161
def J7:Nat:=194
def Z3:Nat:=162
def Y0:Nat:=29
def abA:Nat:=154
def E5:Nat:=156
def aa1:Nat:=121
def O9:Nat:=101
def abb:Nat:=63
def agM:Nat:=86
def O1:Nat:=72
def T0:Nat:=107
def aee:Nat:=36
def Y3:Nat:=60
def P3:Nat:=155
def aaP:Nat:=109
def N7:Nat:=157
def P8:Nat:=191
def aaq:Nat:=108
def aaM:Nat:=77
def X6:Nat:=80
def aai:Nat:=76
def D0:Nat:=113
def K0:Nat:=114
def aaW:Nat:=115
def Y2:Nat:=160
def ak1:Nat:=73
def an7:Nat:=51
def X7:Nat:=52
def K6:Nat:=81
def L2:Nat:=122
def acX:Nat:=53
def M4:Nat:=82
def aap:Nat:=83
def Q6:Nat:=84
def abV:Nat:=85
def ac0:Nat:=87
def ac6:Nat:=88
def agU:Nat:=89
def amh:Nat:=54
noncomputable def aBL:List (Nat × TI):=[
 (22,⟨.slice 5 1 1 [(.int .u8 0)],false,1,[(.slice none 0 0)]⟩),
 (3,⟨.int .i64,false,1,[(.int .i64 0)]⟩),
 (24,⟨.struct [(0,1,false),(1,1,false),(2,1,false),(3,1,false),(4,1,false),(5,1,false),(6,1,false)],true,7,[(.int .i64 0),(.int .i64 0),(.int .i64 0),(.int .i64 0),(.int .i64 0),(.int .i64 0),(.int .i64 0)]⟩),
 (9,⟨.str,false,1,[(.string (bs []))]⟩),
 (51,⟨.other,false,1,[(.pointer none)]⟩),
 (80,⟨.struct [(0,1,false),(1,1,false)],true,2,[(.slice none 0 0),(.int .i64 0)]⟩),
 (85,⟨.slice 3 1 8 [(.int .i64 0)],false,1,[(.slice none 0 0)]⟩),
 (5,⟨.int .u8,false,1,[(.int .u8 0)]⟩),
 (40,⟨.arr 12 1,true,12,[(.string (bs [])),(.string (bs [])),(.string (bs [])),(.string (bs [])),(.string (bs [])),(.string (bs [])),(.string (bs [])),(.string (bs [])),(.string (bs [])),(.string (bs [])),(.string (bs [])),(.string (bs []))]⟩),
 (65,⟨.arr 7 1,true,7,[(.string (bs [])),(.string (bs [])),(.string (bs [])),(.string (bs [])),(.string (bs [])),(.string (bs [])),(.string (bs []))]⟩),
 (29,⟨.slice 9 1 16 [(.string (bs []))],false,1,[(.slice none 0 0)]⟩),
 (48,⟨.struct [(0,1,false),(1,6,true),(7,7,true)],true,14,[(.slice none 0 0),(.int .i64 0),(.string (bs [])),(.string (bs [])),(.slice none 0 0),(.slice none 0 0),(.slice none 0 0),(.int .i64 0),(.int .i64 0),(.int .i64 0),(.int .i64 0),(.int .i64 0),(.int .i64 0),(.int .i64 0)]⟩),
 (21,⟨.int .i32,false,1,[(.int .i32 0)]⟩),
 (185,⟨.arr 256 1,true,256,[(.int .u8 0),(.int .u8 0),(.int .u8 0),(.int .u8 0),(.int .u8 0),(.int .u8 0),(.int .u8 0),(.int .u8 0),(.int .u8 0),(.int .u8 0),(.int .u8 0),(.int .u8 0),(.int .u8 0),(.int .u8 0),(.int .u8 0),(.int .u8 0),(.int .u8 0),(.int .u8 0),(.int .u8 0),(.int .u8 0),(.int .u8 0),(.int .u8 0),(.int .u8 0),(.int .u8 0),(.int .u8 0),(.int .u8 0),(.int .u8 0),(.int .u8 0),(.int .u8 0),(.int .u8 0),(.int .u8 0),(.int .u8 0),(.int .u8 0),(.int .u8 0),(.int .u8 0),(.int .u8 0),(.int .u8 0),(.int .u8 0),(.int .u8 0),(.int .u8 0),(.int .u8 0),(.int .u8 0),(.int .u8 0),(.int .u8 0),(.int .u8 0),(.int .u8 0),(.int .u8 0),(.int .u8 0),(.int .u8 0),(.int .u8 0),(.int .u8 0),(.int .u8 0),(.int .u8 0),(.int .u8 0),(.int .u8 0),(.int .u8 0),(.int .u8 0),(.int .u8 0),(.int .u8 0),(.int .u8 0),(.int .u8 0),(.int .u8 0),(.int .u8 0),(.int .u8 0),(.int .u8 0),(.int .u8 0),(.int .u8 0),(.int .u8 0),(.int .u8 0),(.int .u8 0),(.int .u8 0),(.int .u8 0),(.int .u8 0),(.int .u8 0),(.int .u8 0),(.int .u8 0),(.int .u8 0),(.int .u8 0),(.int .u8 0),(.int .u8 0),(.int .u8 0),(.int .u8 0),(.int .u8 0),(.int .u8 0),(.int .u8 0),(.int .u8 0),(.int .u8 0),(.int .u8 0),(.int .u8 0),(.int .u8 0),(.int .u8 0),(.int .u8 0),(.int .u8 0),(.int .u8 0),(.int .u8 0),(.int .u8 0),(.int .u8 0),(.int .u8 0),(.int .u8 0),(.int .u8 0),(.int .u8 0),(.int .u8 0),(.int .u8 0),(.int .u8 0),(.int .u8 0),(.int .u8 0),(.int .u8 0),(.int .u8 0),(.int .u8 0),(.int .u8 0),(.int .u8 0),(.int .u8 0),(.int .u8 0),(.int .u8 0),(.int .u8 0),(.int .u8 0),(.int .u8 0),(.int .u8 0),(.int .u8 0),(.int .u8 0),(.int .u8 0),(.int .u8 0),(.int .u8 0),(.int .u8 0),(.int .u8 0),(.int .u8 0),(.int .u8 0),(.int .u8 0),(.int .u8 0),(.int .u8 0),(.int .u8 0),(.int .u8 0),(.int .u8 0),(.int .u8 0),(.int .u8 0),(.int .u8 0),(.int .u8 0),(.int .u8 0),(.int .u8 0),(.int .u8 0),(.int .u8 0),(.int .u8 0),(.int .u8 0),(.int .u8 0),(.int .u8 0),(.int .u8 0),(.int .u8 0),(.int .u8 0),(.int .u8 0),(.int .u8 0),(.int .u8 0),(.int .u8 0),(.int .u8 0),(.int .u8 0),(.int .u8 0),(.int .u8 0),(.int .u8 0),(.int .u8 0),(.int .u8 0),(.int .u8 0),(.int .u8 0),(.int .u8 0),(.int .u8 0),(.int .u8 0),(.int .u8 0),(.int .u8 0),(.int .u8 0),(.int .u8 0),(.int .u8 0),(.int .u8 0),(.int .u8 0),(.int .u8 0),(.int .u8 0),(.int .u8 0),(.int .u8 0),(.int .u8 0),(.int .u8 0),(.int .u8 0),(.int .u8 0),(.int .u8 0),(.int .u8 0),(.int .u8 0),(.int .u8 0),(.int .u8 0),(.int .u8 0),(.int .u8 0),(.int .u8 0),(.int .u8 0),(.int .u8 0),(.int .u8 0),(.int .u8 0),(.int .u8 0),(.int .u8 0),(.int .u8 0),(.int .u8 0),(.int .u8 0),(.int .u8 0),(.int .u8 0),(.int .u8 0),(.int .u8 0),(.int .u8 0),(.int .u8 0),(.int .u8 0),(.int .u8 0),(.int .u8 0),(.int .u8 0),(.int .u8 0),(.int .u8 0),(.int .u8 0),(.int .u8 0),(.int .u8 0),(.int .u8 0),(.int .u8 0),(.int .u8 0),(.int .u8 0),(.int .u8 0),(.int .u8 0),(.int .u8 0),(.int .u8 0),(.int .u8 0),(.int .u8 0),(.int .u8 0),(.int .u8 0),(.int .u8 0),(.int .u8 0),(.int .u8 0),(.int .u8 0),(.int .u8 0),(.int .u8 0),(.int .u8 0),(.int .u8 0),(.int .u8 0),(.int .u8 0),(.int .u8 0),(.int .u8 0),(.int .u8 0),(.int .u8 0),(.int .u8 0),(.int .u8 0),(.int .u8 0),(.int .u8 0),(.int .u8 0),(.int .u8 0),(.int .u8 0),(.int .u8 0),(.int .u8 0),(.int .u8 0),(.int .u8 0),(.int .u8 0),(.int .u8 0),(.int .u8 0),(.int .u8 0),(.int .u8 0),(.int .u8 0),(.int .u8 0),(.int .u8 0)]⟩),
 (188,⟨.arr 16 2,true,32,[(.int .u8 0),(.int .u8 0),(.int .u8 0),(.int .u8 0),(.int .u8 0),(.int .u8 0),(.int .u8 0),(.int .u8 0),(.int .u8 0),(.int .u8 0),(.int .u8 0),(.int .u8 0),(.int .u8 0),(.int .u8 0),(.int .u8 0),(.int .u8 0),(.int .u8 0),(.int .u8 0),(.int .u8 0),(.int .u8 0),(.int .u8 0),(.int .u8 0),(.int .u8 0),(.int .u8 0),(.int .u8 0),(.int .u8 0),(.int .u8 0),(.int .u8 0),(.int .u8 0),(.int .u8 0),(.int .u8 0),(.int .u8 0)]⟩),
 (187,⟨.struct [(0,1,false),(1,1,false)],true,2,[(.int .u8 0),(.int .u8 0)]⟩),
 (189,⟨.int .u32,false,1,[(.int .u32 0)]⟩),
 (71,⟨.other,false,1,[(.pointer none)]⟩),
 (43,⟨.slice 99 2 40 [(.string (bs [])),(.slice none 0 0)],false,1,[(.slice none 0 0)]⟩),
 (46,⟨.struct [(0,1,false),(1,1,false),(2,3,true),(5,1,false)],true,6,[(.int .i64 0),(.string (bs [])),(.string (bs [])),(.slice none 0 0),(.slice none 0 0),(.slice none 0 0)]⟩),
 (44,⟨.slice 31 3 64 [(.string (bs [])),(.slice none 0 0),(.slice none 0 0)],false,1,[(.slice none 0 0)]⟩),
 (31,⟨.struct [(0,1,false),(1,1,false),(2,1,false)],true,3,[(.string (bs [])),(.slice none 0 0),(.slice none 0 0)]⟩),
 (4,⟨.bool,false,1,[(.bool false)]⟩),
 (57,⟨.other,false,1,[.nilFunc]⟩),
 (145,⟨.other,false,1,[.nilFunc]⟩),
 (55,⟨.other,false,1,[.nilFunc]⟩),
 (166,⟨.other,false,1,[(.pointer none)]⟩),
 (99,⟨.struct [(0,1,false),(1,1,false)],true,2,[(.string (bs [])),(.slice none 0 0)]⟩),
 (138,⟨.other,false,1,[.nilFunc]⟩),
 (162,⟨.int .u64,false,1,[(.int .u64 0)]⟩),
 (105,⟨.arr 3 1,true,3,[(.int .i64 0),(.int .i64 0),(.int .i64 0)]⟩),
 (148,⟨.arr 256 1,true,256,[(.bool false),(.bool false),(.bool false),(.bool false),(.bool false),(.bool false),(.bool false),(.bool false),(.bool false),(.bool false),(.bool false),(.bool false),(.bool false),(.bool false),(.bool false),(.bool false),(.bool false),(.bool false),(.bool false),(.bool false),(.bool false),(.bool false),(.bool false),(.bool false),(.bool false),(.bool false),(.bool false),(.bool false),(.bool false),(.bool false),(.bool false),(.bool false),(.bool false),(.bool false),(.bool false),(.bool false),(.bool false),(.bool false),(.bool false),(.bool false),(.bool false),(.bool false),(.bool false),(.bool false),(.bool false),(.bool false),(.bool false),(.bool false),(.bool false),(.bool false),(.bool false),(.bool false),(.bool false),(.bool false),(.bool false),(.bool false),(.bool false),(.bool false),(.bool false),(.bool false),(.bool false),(.bool false),(.bool false),(.bool false),(.bool false),(.bool false),(.bool false),(.bool false),(.bool false),(.bool false),(.bool false),(.bool false),(.bool false),(.bool false),(.bool false),(.bool false),(.bool false),(.bool false),(.bool false),(.bool false),(.bool false),(.bool false),(.bool false),(.bool false),(.bool false),(.bool false),(.bool false),(.bool false),(.bool false),(.bool false),(.bool false),(.bool false),(.bool false),(.bool false),(.bool false),(.bool false),(.bool false),(.bool false),(.bool false),(.bool false),(.bool false),(.bool false),(.bool false),(.bool false),(.bool false),(.bool false),(.bool false),(.bool false),(.bool false),(.bool false),(.bool false),(.bool false),(.bool false),(.bool false),(.bool false),(.bool false),(.bool false),(.bool false),(.bool false),(.bool false),(.bool false),(.bool false),(.bool false),(.bool false),(.bool false),(.bool false),(.bool false),(.bool false),(.bool false),(.bool false),(.bool false),(.bool false),(.bool false),(.bool false),(.bool false),(.bool false),(.bool false),(.bool false),(.bool false),(.bool false),(.bool false),(.bool false),(.bool false),(.bool false),(.bool false),(.bool false),(.bool false),(.bool false),(.bool false),(.bool false),(.bool false),(.bool false),(.bool false),(.bool false),(.bool false),(.bool false),(.bool false),(.bool false),(.bool false),(.bool false),(.bool false),(.bool false),(.bool false),(.bool false),(.bool false),(.bool false),(.bool false),(.bool false),(.bool false),(.bool false),(.bool false),(.bool false),(.bool false),(.bool false),(.bool false),(.bool false),(.bool false),(.bool false),(.bool false),(.bool false),(.bool false),(.bool false),(.bool false),(.bool false),(.bool false),(.bool false),(.bool false),(.bool false),(.bool false),(.bool false),(.bool false),(.bool false),(.bool false),(.bool false),(.bool false),(.bool false),(.bool false),(.bool false),(.bool false),(.bool false),(.bool false),(.bool false),(.bool false),(.bool false),(.bool false),(.bool false),(.bool false),(.bool false),(.bool false),(.bool false),(.bool false),(.bool false),(.bool false),(.bool false),(.bool false),(.bool false),(.bool false),(.bool false),(.bool false),(.bool false),(.bool false),(.bool false),(.bool false),(.bool false),(.bool false),(.bool false),(.bool false),(.bool false),(.bool false),(.bool false),(.bool false),(.bool false),(.bool false),(.bool false),(.bool false),(.bool false),(.bool false),(.bool false),(.bool false),(.bool false),(.bool false),(.bool false),(.bool false),(.bool false),(.bool false),(.bool false),(.bool false),(.bool false),(.bool false),(.bool false),(.bool false),(.bool false),(.bool false),(.bool false),(.bool false),(.bool false)]⟩),
 (152,⟨.other,false,1,[(.pointer none)]⟩)]
noncomputable def aCZ:List (Nat × Z7):=[
 (3,{ loc:=[3],loops:=[],k9:=[(5,7,[(.ret,⟨[2],[],[]⟩),(.normal,⟨[4],[],[]⟩)])],full:=[],p9:=false }),
 (5,{ loc:=[2],loops:=[],k9:=[],full:=[],p9:=false }),
 (14,{ loc:=[2],loops:=[],k9:=[],full:=[],p9:=false }),
 (26,{ loc:=[],loops:=[],k9:=[(1,3,[(.normal,⟨[0],[],[]⟩)])],full:=[],p9:=false }),
 (38,{ loc:=[2,3],loops:=[],k9:=[],full:=[],p9:=false }),
 (58,{ loc:=[],loops:=[],k9:=[],full:=[],p9:=false }),
 (56,{ loc:=[],loops:=[],k9:=[(2,4,[(.ret,⟨[4],[],[]⟩),(.normal,⟨[0,1],[],[]⟩)])],full:=[],p9:=false }),
 (64,{ loc:=[4,9],loops:=[(9,⟨⟨[7],[(4,(4,0)),(9,(9,0))],[(4,7),(9,7)]⟩,[(.exit 0,⟨[7],[(4,(4,0)),(9,(9,0))],[(4,7),(9,7)]⟩)]⟩)],k9:=[(4,6,[(.ret,⟨[5],[(4,(4,0))],[(4,7)]⟩),(.normal,⟨[1,6],[(4,(4,0))],[(4,7)]⟩)]),(1,3,[(.ret,⟨[5],[(4,(4,0))],[(4,7)]⟩),(.normal,⟨[0,1],[(4,(4,0))],[(4,7)]⟩)])],full:=[],p9:=false }),
 (66,{ loc:=[],loops:=[],k9:=[],full:=[],p9:=false }),
 (65,{ loc:=[],loops:=[],k9:=[(4,6,[(.ret,⟨[4],[],[]⟩),(.normal,⟨[1,5],[],[]⟩)]),(1,3,[(.ret,⟨[4],[],[]⟩),(.normal,⟨[0,1],[],[]⟩)])],full:=[],p9:=false }),
 (67,{ loc:=[],loops:=[],k9:=[],full:=[],p9:=false }),
 (37,{ loc:=[3,4],loops:=[],k9:=[],full:=[],p9:=false }),
 (6,{ loc:=[1],loops:=[],k9:=[(4,6,[(.normal,⟨[3,4],[(1,(1,0))],[(1,7)]⟩)])],full:=[],p9:=false }),
 (15,{ loc:=[1],loops:=[],k9:=[],full:=[],p9:=false }),
 (40,{ loc:=[],loops:=[],k9:=[(12,16,[(.normal,⟨[0,11,20],[],[]⟩)]),(4,11,[(.normal,⟨[0,11,12],[],[]⟩)]),(1,3,[(.ret,⟨[4],[],[]⟩),(.normal,⟨[0,1],[],[]⟩)])],full:=[],p9:=false }),
 (39,{ loc:=[],loops:=[],k9:=[],full:=[],p9:=false }),
 (41,{ loc:=[],loops:=[],k9:=[],full:=[],p9:=false }),
 (42,{ loc:=[1],loops:=[],k9:=[],full:=[],p9:=false }),
 (43,{ loc:=[],loops:=[(3,⟨⟨[0,1,7,8],[],[]⟩,[(.exit 0,⟨[7],[],[]⟩)]⟩),(6,⟨⟨[0,1,7,8,9],[],[]⟩,[(.exit 2,⟨[0,1,7,8],[],[]⟩)]⟩)],k9:=[(6,8,[(.normal,⟨[0,1,7,8,9],[],[]⟩),(.exit 2,⟨[0,1,7,8],[],[]⟩)])],full:=[],p9:=false }),
 (16,{ loc:=[1],loops:=[],k9:=[],full:=[],p9:=false }),
 (17,{ loc:=[],loops:=[(2,⟨⟨[0,1,5],[],[]⟩,[(.exit 0,⟨[5],[],[]⟩)]⟩)],k9:=[(2,3,[(.normal,⟨[0,1,5],[],[]⟩),(.exit 0,⟨[5],[],[]⟩)])],full:=[],p9:=false }),
 (7,{ loc:=[1],loops:=[],k9:=[(5,8,[(.normal,⟨[3,4],[(1,(1,0))],[(1,7)]⟩)])],full:=[],p9:=false }),
 (18,{ loc:=[1],loops:=[],k9:=[],full:=[],p9:=false }),
 (44,{ loc:=[1],loops:=[],k9:=[],full:=[],p9:=false }),
 (45,{ loc:=[1],loops:=[(9,⟨⟨[3,5],[(1,(1,0))],[(1,7)]⟩,[(.exit 2,⟨[3],[(1,(1,0))],[(1,7)]⟩)]⟩),(3,⟨⟨[3,4],[(1,(1,0))],[(1,7)]⟩,[(.exit 0,⟨[3],[(1,(1,0))],[(1,7)]⟩)]⟩)],k9:=[(5,4,[(.normal,⟨[3,4],[(1,(1,0))],[(1,7)]⟩)])],full:=[],p9:=false }),
 (19,{ loc:=[1],loops:=[],k9:=[],full:=[],p9:=false }),
 (20,{ loc:=[],loops:=[(6,⟨⟨[0,3],[],[]⟩,[(.exit 0,⟨[0,3],[],[]⟩)]⟩)],k9:=[],full:=[],p9:=false }),
 (21,{ loc:=[],loops:=[],k9:=[],full:=[],p9:=false }),
 (22,{ loc:=[],loops:=[],k9:=[],full:=[],p9:=false }),
 (8,{ loc:=[],loops:=[(5,⟨⟨[3,4,12,13,14],[],[]⟩,[(.exit 0,⟨[4],[],[]⟩),(.ret,⟨[2],[],[]⟩)]⟩)],k9:=[(8,10,[(.ret,⟨[2],[],[]⟩),(.normal,⟨[3,4,6,12,13,14],[],[]⟩)])],full:=[],p9:=false }),
 (23,{ loc:=[0,1],loops:=[],k9:=[],full:=[],p9:=false }),
 (46,{ loc:=[4,9],loops:=[(8,⟨⟨[7],[(4,(4,0)),(9,(9,0))],[(4,7),(9,7)]⟩,[(.exit 0,⟨[7],[(4,(4,0)),(9,(9,0))],[(4,7),(9,7)]⟩)]⟩)],k9:=[(8,9,[(.normal,⟨[7],[(4,(4,0)),(9,(9,0))],[(4,7),(9,7)]⟩),(.exit 0,⟨[7],[(4,(4,0)),(9,(9,0))],[(4,7),(9,7)]⟩)]),(1,3,[(.ret,⟨[5],[(4,(4,0))],[(4,7)]⟩),(.normal,⟨[0,1],[(4,(4,0))],[(4,7)]⟩)])],full:=[],p9:=false }),
 (24,{ loc:=[],loops:=[],k9:=[],full:=[],p9:=false }),
 (47,{ loc:=[],loops:=[(11,⟨⟨[0,1,2,3,9,10],[],[]⟩,[(.exit 0,⟨[0,9,10],[],[]⟩)]⟩)],k9:=[(5,7,[(.normal,⟨[0,1,2,3],[],[]⟩)])],full:=[],p9:=false }),
 (68,{ loc:=[],loops:=[(6,⟨⟨[0,1,6,7],[],[]⟩,[(.exit 0,⟨[0,1,6],[],[]⟩)]⟩)],k9:=[(2,4,[(.normal,⟨[0,1],[],[]⟩)])],full:=[],p9:=false }),
 (103,{ loc:=[],loops:=[],k9:=[],full:=[],p9:=false }),
 (104,{ loc:=[],loops:=[],k9:=[],full:=[],p9:=false }),
 (149,{ loc:=[9],loops:=[],k9:=[],full:=[],p9:=false }),
 (69,{ loc:=[],loops:=[(6,⟨⟨[0,1,5],[],[]⟩,[(.ret,⟨[4],[],[]⟩)]⟩)],k9:=[],full:=[],p9:=false }),
 (70,{ loc:=[],loops:=[],k9:=[],full:=[],p9:=false }),
 (106,{ loc:=[],loops:=[(15,⟨⟨[0,1,5,6,7,8,9,10],[],[]⟩,[(.exit 1,⟨[],[],[]⟩),(.ret,⟨[4],[],[]⟩)]⟩)],k9:=[(21,23,[(.ret,⟨[4],[],[]⟩),(.normal,⟨[0,1,5,6,7,8,9,10],[],[]⟩)]),(16,21,[(.ret,⟨[4],[],[]⟩),(.normal,⟨[0,1,5,6,7,8,9,10],[],[]⟩)]),(2,10,[(.ret,⟨[4],[],[]⟩),(.normal,⟨[0,1,5],[],[]⟩)])],full:=[],p9:=false }),
 (150,{ loc:=[],loops:=[],k9:=[],full:=[],p9:=false }),
 (152,{ loc:=[],loops:=[],k9:=[],full:=[],p9:=false }),
 (153,{ loc:=[],loops:=[(11,⟨⟨[0,1,5,6,7,8,10],[],[]⟩,[(.exit 2,⟨[],[],[]⟩),(.ret,⟨[4],[],[]⟩)]⟩),(5,⟨⟨[0,1,5,6,7,8,9],[],[]⟩,[(.exit 0,⟨[0,1,5,6,7,8],[],[]⟩)]⟩)],k9:=[(8,10,[(.ret,⟨[4],[],[]⟩),(.normal,⟨[0,1,5,6,7,8],[],[]⟩)])],full:=[],p9:=false }),
 (188,{ loc:=[],loops:=[(8,⟨⟨[4,6,7,8],[],[]⟩,[(.exit 2,⟨[4,6],[],[]⟩)]⟩),(3,⟨⟨[0,4,5],[],[]⟩,[(.exit 0,⟨[0,4],[],[]⟩)]⟩)],k9:=[(10,9,[(.normal,⟨[4,6,7,8],[],[]⟩)]),(10,12,[(.normal,⟨[4,6,7,8],[],[]⟩)])],full:=[],p9:=false }),
 (25,{ loc:=[10],loops:=[],k9:=[],full:=[],p9:=false }),
 (48,{ loc:=[],loops:=[],k9:=[],full:=[],p9:=false }),
 (71,{ loc:=[],loops:=[],k9:=[],full:=[],p9:=false }),
 (49,{ loc:=[],loops:=[],k9:=[],full:=[],p9:=false }),
 (50,{ loc:=[5],loops:=[],k9:=[],full:=[],p9:=false }),
 (74,{ loc:=[2,4],loops:=[],k9:=[],full:=[],p9:=false }),
 (110,{ loc:=[1],loops:=[],k9:=[(3,9,[(.ret,⟨[2],[],[]⟩),(.normal,⟨[],[(1,(1,0))],[(1,6)]⟩)]),(1,3,[(.ret,⟨[2],[],[]⟩),(.normal,⟨[],[(1,(1,0))],[(1,6)]⟩)])],full:=[],p9:=false }),
 (59,{ loc:=[3],loops:=[],k9:=[],full:=[],p9:=false }),
 (98,{ loc:=[],loops:=[],k9:=[],full:=[],p9:=false }),
 (78,{ loc:=[],loops:=[],k9:=[],full:=[],p9:=false }),
 (117,{ loc:=[],loops:=[],k9:=[],full:=[],p9:=false }),
 (31,{ loc:=[],loops:=[],k9:=[],full:=[],p9:=false }),
 (61,{ loc:=[],loops:=[(2,⟨⟨[0,1,7,8],[],[]⟩,[(.exit 0,⟨[],[],[]⟩),(.ret,⟨[4],[],[]⟩)]⟩)],k9:=[],full:=[],p9:=true }),
 (163,{ loc:=[],loops:=[],k9:=[],full:=[],p9:=false }),
 (164,{ loc:=[],loops:=[],k9:=[],full:=[],p9:=false }),
 (123,{ loc:=[],loops:=[(2,⟨⟨[0,1,7,8],[],[]⟩,[(.exit 0,⟨[],[],[]⟩),(.ret,⟨[4],[],[]⟩)]⟩)],k9:=[],full:=[],p9:=true }),
 (172,{ loc:=[],loops:=[],k9:=[],full:=[],p9:=false }),
 (199,{ loc:=[],loops:=[],k9:=[],full:=[],p9:=false }),
 (124,{ loc:=[],loops:=[],k9:=[],full:=[],p9:=false }),
 (118,{ loc:=[],loops:=[],k9:=[],full:=[],p9:=false }),
 (165,{ loc:=[],loops:=[],k9:=[],full:=[],p9:=false }),
 (166,{ loc:=[],loops:=[],k9:=[],full:=[],p9:=false }),
 (195,{ loc:=[],loops:=[],k9:=[],full:=[],p9:=false }),
 (99,{ loc:=[],loops:=[],k9:=[],full:=[],p9:=false }),
 (100,{ loc:=[],loops:=[],k9:=[],full:=[],p9:=false }),
 (147,{ loc:=[],loops:=[],k9:=[],full:=[],p9:=false }),
 (33,{ loc:=[],loops:=[(2,⟨⟨[0,5,6],[],[]⟩,[(.exit 0,⟨[0],[],[]⟩),(.ret,⟨[2],[],[]⟩)]⟩)],k9:=[],full:=[],p9:=false }),
 (116,{ loc:=[],loops:=[],k9:=[],full:=[],p9:=false }),
 (161,{ loc:=[],loops:=[],k9:=[],full:=[],p9:=false }),
 (194,{ loc:=[],loops:=[(2,⟨⟨[0,1,7,8],[],[]⟩,[(.exit 0,⟨[],[],[]⟩),(.ret,⟨[4],[],[]⟩)]⟩)],k9:=[],full:=[],p9:=true }),
 (162,{ loc:=[1],loops:=[],k9:=[],full:=[],p9:=false }),
 (29,{ loc:=[1],loops:=[],k9:=[],full:=[],p9:=false }),
 (111,{ loc:=[1,2],loops:=[],k9:=[],full:=[],p9:=false }),
 (154,{ loc:=[1,2],loops:=[],k9:=[],full:=[],p9:=false }),
 (156,{ loc:=[],loops:=[],k9:=[],full:=[7],p9:=false }),
 (121,{ loc:=[5],loops:=[(3,⟨⟨[3,7,8,9],[],[]⟩,[(.exit 0,⟨[3],[],[]⟩)]⟩)],k9:=[],full:=[],p9:=false }),
 (112,{ loc:=[],loops:=[],k9:=[(1,5,[(.ret,⟨[4,5],[],[]⟩),(.normal,⟨[0,1],[],[]⟩)])],full:=[],p9:=false }),
 (158,{ loc:=[5],loops:=[],k9:=[],full:=[],p9:=false }),
 (192,{ loc:=[],loops:=[],k9:=[],full:=[],p9:=false }),
 (213,{ loc:=[],loops:=[],k9:=[],full:=[],p9:=false }),
 (101,{ loc:=[],loops:=[],k9:=[],full:=[],p9:=false }),
 (159,{ loc:=[],loops:=[],k9:=[(22,28,[(.ret,⟨[4],[],[]⟩),(.normal,⟨[0,12],[],[]⟩)]),(8,10,[(.ret,⟨[4],[],[]⟩),(.normal,⟨[0,9],[],[]⟩)]),(2,5,[(.normal,⟨[0,5,6,7],[],[]⟩)])],full:=[],p9:=false }),
 (132,{ loc:=[],loops:=[(2,⟨⟨[0,1,5],[],[]⟩,[(.exit 0,⟨[],[],[]⟩),(.ret,⟨[4],[],[]⟩)]⟩)],k9:=[(4,3,[(.ret,⟨[4],[],[]⟩),(.normal,⟨[0,1,5],[],[]⟩)])],full:=[],p9:=false }),
 (171,{ loc:=[],loops:=[(3,⟨⟨[0,5,6],[],[]⟩,[(.exit 0,⟨[],[],[]⟩),(.ret,⟨[2,3,4],[],[]⟩)]⟩)],k9:=[(5,4,[(.ret,⟨[2,3,4],[],[]⟩),(.normal,⟨[0,5,6],[],[]⟩)]),(5,11,[(.ret,⟨[2,3,4],[],[]⟩),(.normal,⟨[0,5,6],[],[]⟩)])],full:=[],p9:=false }),
 (63,{ loc:=[],loops:=[(3,⟨⟨[3,8,9,10],[],[]⟩,[(.exit 0,⟨[3],[],[]⟩)]⟩)],k9:=[],full:=[],p9:=false }),
 (193,{ loc:=[],loops:=[],k9:=[(8,10,[(.normal,⟨[6],[],[]⟩)]),(5,7,[(.ret,⟨[4,5],[],[]⟩),(.normal,⟨[6],[],[]⟩)]),(1,3,[(.ret,⟨[4,5],[],[]⟩),(.normal,⟨[0,1],[],[]⟩)])],full:=[],p9:=false }),
 (86,{ loc:=[],loops:=[],k9:=[],full:=[],p9:=false }),
 (135,{ loc:=[],loops:=[],k9:=[],full:=[],p9:=false }),
 (173,{ loc:=[],loops:=[],k9:=[],full:=[],p9:=false }),
 (200,{ loc:=[],loops:=[],k9:=[],full:=[],p9:=false }),
 (214,{ loc:=[],loops:=[],k9:=[],full:=[],p9:=false }),
 (223,{ loc:=[],loops:=[],k9:=[],full:=[],p9:=false }),
 (75,{ loc:=[],loops:=[],k9:=[],full:=[],p9:=false }),
 (72,{ loc:=[5],loops:=[(3,⟨⟨[0,3,17,18,19],[],[]⟩,[(.exit 0,⟨[0,3],[],[]⟩)]⟩),(12,⟨⟨[0,3,17,18,19,53,54,55],[],[]⟩,[(.exit 2,⟨[0,3,17,18,19],[],[]⟩)]⟩)],k9:=[],full:=[],p9:=false }),
 (107,{ loc:=[3,5,6,8],loops:=[],k9:=[(1,3,[(.ret,⟨[7],[(6,(6,0))],[(6,3)]⟩),(.normal,⟨[1],[(3,(3,0)),(5,(5,0)),(6,(6,0))],[(3,3),(5,7),(6,3)]⟩)])],full:=[],p9:=false }),
 (36,{ loc:=[1],loops:=[(3,⟨⟨[3,7,8,9],[],[]⟩,[(.exit 0,⟨[3],[],[]⟩)]⟩)],k9:=[],full:=[],p9:=false }),
 (60,{ loc:=[],loops:=[],k9:=[],full:=[],p9:=false }),
 (109,{ loc:=[1,2],loops:=[(3,⟨⟨[3,13,14,15],[(2,(2,0))],[(2,3)]⟩,[(.exit 0,⟨[3],[(2,(2,0))],[(2,3)]⟩)]⟩)],k9:=[],full:=[],p9:=false }),
 (157,{ loc:=[],loops:=[],k9:=[],full:=[],p9:=false }),
 (191,{ loc:=[],loops:=[(2,⟨⟨[0,1,7,8],[],[]⟩,[(.exit 0,⟨[],[],[]⟩),(.ret,⟨[4],[],[]⟩)]⟩)],k9:=[],full:=[],p9:=false }),
 (108,{ loc:=[3],loops:=[(5,⟨⟨[7,8,25,26,27],[(3,(3,0))],[(3,3)]⟩,[(.exit 0,⟨[7,8],[],[]⟩)]⟩)],k9:=[(1,3,[(.ret,⟨[4,5,6],[],[]⟩),(.normal,⟨[0],[(3,(3,0))],[(3,3)]⟩)])],full:=[],p9:=false }),
 (77,{ loc:=[4],loops:=[(2,⟨⟨[0,5,6,7],[],[]⟩,[(.exit 0,⟨[0],[],[]⟩),(.ret,⟨[2],[],[]⟩)]⟩)],k9:=[],full:=[],p9:=false }),
 (80,{ loc:=[5],loops:=[(3,⟨⟨[3,7,8,9],[],[]⟩,[(.exit 0,⟨[3],[],[]⟩)]⟩)],k9:=[],full:=[],p9:=false }),
 (76,{ loc:=[],loops:=[],k9:=[],full:=[],p9:=false }),
 (113,{ loc:=[],loops:=[(3,⟨⟨[0,1,2,8,9,10],[],[]⟩,[(.exit 0,⟨[0,1,2,8,9],[],[]⟩)]⟩)],k9:=[],full:=[],p9:=true }),
 (114,{ loc:=[2],loops:=[],k9:=[],full:=[],p9:=false }),
 (115,{ loc:=[],loops:=[],k9:=[],full:=[],p9:=false }),
 (160,{ loc:=[],loops:=[],k9:=[],full:=[],p9:=false }),
 (73,{ loc:=[5],loops:=[(5,⟨⟨[3,9,10,11],[],[]⟩,[(.exit 0,⟨[3],[],[]⟩)]⟩)],k9:=[],full:=[],p9:=false }),
 (51,{ loc:=[],loops:=[],k9:=[(2,4,[(.ret,⟨[4,5],[],[]⟩),(.normal,⟨[0,1,6],[],[]⟩)])],full:=[],p9:=false }),
 (52,{ loc:=[6],loops:=[(7,⟨⟨[8,32,33,34],[],[]⟩,[(.exit 0,⟨[8],[],[]⟩)]⟩)],k9:=[],full:=[],p9:=false }),
 (81,{ loc:=[5,10],loops:=[],k9:=[(2,4,[(.ret,⟨[4,6],[(5,(5,0))],[(5,3)]⟩),(.normal,⟨[0,7],[(5,(5,0))],[(5,3)]⟩)])],full:=[],p9:=false }),
 (53,{ loc:=[2,17],loops:=[],k9:=[(15,17,[(.ret,⟨[3],[(2,(2,0))],[(2,7)]⟩),(.normal,⟨[],[(2,(2,0)),(17,(17,0))],[(2,7),(17,7)]⟩)]),(4,6,[(.normal,⟨[4,5,6],[(2,(2,0))],[(2,7)]⟩)])],full:=[],p9:=false }),
 (83,{ loc:=[],loops:=[],k9:=[],full:=[],p9:=false }),
 (84,{ loc:=[],loops:=[(5,⟨⟨[0,8,22,23],[],[]⟩,[(.exit 0,⟨[8],[],[]⟩)]⟩)],k9:=[(1,3,[(.ret,⟨[6,7],[],[]⟩),(.normal,⟨[0],[],[]⟩)])],full:=[],p9:=false }),
 (85,{ loc:=[],loops:=[],k9:=[],full:=[],p9:=false }),
 (87,{ loc:=[2],loops:=[(5,⟨⟨[4,18,19,20],[(2,(2,0))],[(2,3)]⟩,[(.exit 0,⟨[4],[(2,(2,0))],[(2,3)]⟩),(.ret,⟨[3],[(2,(2,0))],[(2,3)]⟩)]⟩)],k9:=[],full:=[],p9:=false }),
 (88,{ loc:=[],loops:=[],k9:=[(8,10,[(.normal,⟨[5,6,7,8],[],[]⟩)]),(3,5,[(.ret,⟨[2,3],[],[]⟩),(.normal,⟨[0],[],[]⟩)]),(1,3,[(.ret,⟨[2,3],[],[]⟩),(.normal,⟨[0],[],[]⟩)])],full:=[],p9:=false }),
 (89,{ loc:=[],loops:=[],k9:=[(3,5,[(.ret,⟨[4],[],[]⟩),(.normal,⟨[0,1],[],[]⟩)]),(1,3,[(.ret,⟨[4],[],[]⟩),(.normal,⟨[0,1],[],[]⟩)])],full:=[],p9:=false }),
 (126,{ loc:=[],loops:=[(1,⟨⟨[0,1],[],[]⟩,[(.exit 0,⟨[0],[],[]⟩)]⟩)],k9:=[(1,2,[(.normal,⟨[0,1],[],[]⟩),(.exit 0,⟨[0],[],[]⟩)])],full:=[],p9:=false }),
 (125,{ loc:=[],loops:=[(1,⟨⟨[0,1],[],[]⟩,[(.exit 0,⟨[0],[],[]⟩)]⟩)],k9:=[(1,2,[(.normal,⟨[0,1],[],[]⟩),(.exit 0,⟨[0],[],[]⟩)])],full:=[],p9:=false })]
noncomputable def fnB:List (Nat × Func):=[
 (3,Tryz.f3),(5,Tryz.f5),(14,Tryz.f14),(26,Tryz.f26),(38,Tryz.f38),(58,Tryz.f58),(56,Tryz.f56),(64,Tryz.f64),(66,Tryz.f66),(65,Tryz.f65),(67,Tryz.f67),(37,Tryz.f37),(6,Tryz.f6),(15,Tryz.f15),(40,Tryz.f40),(39,Tryz.f39),(41,Tryz.f41),(42,Tryz.f42),(43,Tryz.f43),(16,Tryz.f16),(17,Tryz.f17),(7,Tryz.f7),(18,Tryz.f18),(44,Tryz.f44),(45,Tryz.f45),(19,Tryz.f19),(20,Tryz.f20),(21,Tryz.f21),(22,Tryz.f22),(8,Tryz.f8),(23,Tryz.f23),(46,Tryz.f46),(24,Tryz.f24),(47,Tryz.f47),(68,Tryz.f68),(103,Tryz.f103),(104,Tryz.f104),(149,Tryz.f149),(69,Tryz.f69),(70,Tryz.f70),(106,Tryz.f106),(150,Tryz.f150),(152,Tryz.f152),(153,Tryz.f153),(188,Tryz.f188),(25,Tryz.f25),(48,Tryz.f48),(71,Tryz.f71),(49,Tryz.f49),(50,Tryz.f50),(74,Tryz.f74),(110,Tryz.f110),(59,Tryz.f59),(98,Tryz.f98),(78,Tryz.f78),(117,Tryz.f117),(31,Tryz.f31),(61,Tryz.f61),(163,Tryz.f163),(164,Tryz.f164),(123,Tryz.f123),(172,Tryz.f172),(199,Tryz.f199),(124,Tryz.f124),(118,Tryz.f118),(165,Tryz.f165),(166,Tryz.f166),(195,Tryz.f195),(99,Tryz.f99),(100,Tryz.f100),(147,Tryz.f147),(33,Tryz.f33),(116,Tryz.f116),(161,Tryz.f161),(194,Tryz.f194),(162,Tryz.f162),(29,Tryz.f29),(111,Tryz.f111),(154,Tryz.f154),(156,Tryz.f156),(121,Tryz.f121),(112,Tryz.f112),(158,Tryz.f158),(192,Tryz.f192),(213,Tryz.f213),(101,Tryz.f101),(159,Tryz.f159),(132,Tryz.f132),(171,Tryz.f171),(63,Tryz.f63),(193,Tryz.f193),(86,Tryz.f86),(135,Tryz.f135),(173,Tryz.f173),(200,Tryz.f200),(214,Tryz.f214),(223,Tryz.f223),(75,Tryz.f75),(72,Tryz.f72),(107,Tryz.f107),(36,Tryz.f36),(60,Tryz.f60),(109,Tryz.f109),(157,Tryz.f157),(191,Tryz.f191),(108,Tryz.f108),(77,Tryz.f77),(80,Tryz.f80),(76,Tryz.f76),(113,Tryz.f113),(114,Tryz.f114),(115,Tryz.f115),(160,Tryz.f160),(73,Tryz.f73),(51,Tryz.f51),(52,Tryz.f52),(81,Tryz.f81),(53,Tryz.f53),(83,Tryz.f83),(84,Tryz.f84),(85,Tryz.f85),(87,Tryz.f87),(88,Tryz.f88),(89,Tryz.f89),(126,Tryz.f126),(125,Tryz.f125)]
def aBD:List Nat:=[3,66,65,67,6,15,40,39,41,42,43,16,17,7,18,44,45,19,20,22,8,103,104,149,69,70,106,150,152,153,188,48,71,110,59,98,78,117,31,61,163,164,123,172,199,124,118,165,166,195,99,100,147,33,116,161,194,162,29,192,213,101,132,171,63,193,86,135,173,200,214,223,75,36,60,157,191,77,76,113,114,115,160,73,83,84,88,89,126,125,131,130,54]
def aCm:List Nat:=[64,21,23,46,24,47,68,74,111,154,156,121,107,109,108,80,51,81,53,87,127]
def aAe:List (Nat × List Nat):=[(3,[2,2,10,4,14,18,19,22,2,26,5,30,6,33,35,38,39,40,42,46,2]),(5,[3]),(14,[4,3,6,7,8]),(26,[2,0,8,2]),(38,[6,9,12,5,4]),(58,[4,6,4]),(56,[4,7,8,15,17,18,4,25,5,30,31,37,41,45,4,47,51,52,62,66,69,80,83,84,6,92,93,6,96,97,4]),(64,[5,10,12,13,16,17,5,22,23,6,26,28,29,5,33,7,35,8,37,39,42,44,46,53,7,72,5]),(66,[2,3,5,6,2]),(65,[4,6,8,9,12,13,16,17,4,21,23,24,4,28,4]),(67,[2,3,6,7,10,11,2]),(37,[5,7,9,13,15,19,21,25,27,31,33,37,39]),(6,[2,2,3,4,10,12,3,4,48,50,54,2]),(15,[2,11,16,21,26,31,2]),(40,[4,5,7,8,4,11,12,12,12,12,12,12,12,4,20,20,20,20,4,25,27,30,31,35,36,4,4,4]),(39,[6,7,8,10,11,12,6]),(41,[2,3,2]),(42,[2,2]),(43,[6,10,7,8,12,13,9,17,19,20,21,23,24,25,31,32,33,7,29,9,15,8,36,6]),(16,[2,2,2]),(17,[4,5,6,8,9,12,14,18,5,20,0,22,1,24,4]),(7,[2,2,3,4,10,3,12,4,50,52,56,2]),(18,[2,2,3,9,11,12,2]),(44,[2,6,16,21,26,31,36,41,46,2]),(45,[2,3,4,9,15,3,17,19,3,13,4,5,21,27,30,3,25,5,33,2]),(19,[2,2,2]),(20,[2,4,2,6,8,2,3,12,14,20,3,22,0,24,29,2]),(21,[0,0]),(22,[2,3,6,2]),(8,[2,7,2,4,11,14,16,5,6,19,21,23,24,28,2,30,31,4,14,35,2]),(23,[3,2]),(46,[5,10,13,14,5,19,20,6,23,5,26,28,7,8,30,32,35,37,42,43,51,7,70,5,5]),(24,[4,5,6,4,2000007,6000007]),(47,[8,12,8,14,16,17,8,19,21,22,3,25,26,3,30,32,3,10,34,35,37,38,11,40,43,44,45,46,50,51,52,0,56,10,59,60,63,8]),(68,[4,10,5,12,14,15,16,19,1,20,6,7,22,23,29,28,8,9,34,35,36,39,40,0,26,7,42,45,47,49,4]),(103,[2,3,7,2,9,2]),(104,[2,3,4,6,7,11,2,3,15,14,2,3]),(149,[2,3,13,4,15,2,3,17,5,19,6,22,24,7,28,31,33,2,3,36,8,39,43,44,2,3,46,10,48,52,55,2,3,58,60,64,2,3,68,11,70,72,73,2,3,76,78,82,87,2,3,91,12,93,95,96,2,3,99,103,108,113,2,3]),(69,[4,7,10,4,13,16,17,4,5,20,21,6,23,25,4,26,5,28,29,30,0]),(70,[4,5,6,4]),(106,[4,14,5,17,19,20,21,16,4,25,24,27,28,4,32,33,31,4,37,40,41,36,45,46,4,48,6,50,7,8,52,54,9,10,57,58,60,61,63,65,66,68,70,11,72,4,74,75,8,78,79,82,84,85,86,87,88,91,94,4,95,8,97,10,99,102,103,104,108,109,111,12,113,115,116,4,4,118,121,122,123,128,129,130,133,134,136,13,138,4,140,141,4,4]),(150,[4,5,6,4]),(152,[2,3,2]),(153,[4,12,11,5,6,16,7,8,9,18,19,23,25,26,8,21,9,30,31,33,34,35,37,4,40,10,41,42,45,8,47,48,49,8,53,54,55,56,57,8,63,10,65,66,68,69,70,71,73,75,78,79,4,4]),(188,[2,3,4,5,9,10,15,17,18,4,13,5,6,7,22,8,24,28,31,32,6,34,35,7,26,8,37,38,2,3]),(25,[4,15,14,5,6,7,20,22,23,4,25,26,28,29,4,31,34,38,33,40,8,9,42,4,44,45,4,48,50,51,4,53,56,55,11,60,4,62,4,70,71,69,12,13,75,4,77,4]),(48,[4,5,6,7,8,4,5,6]),(71,[4,5,6,8,9,7,11,13,14,16,17,18,4,5,6,22,4,5,6]),(49,[4,5,6,8,4,10,12,16,18,21,23,4,25,27,4,35,37,4,4,4]),(50,[4,9,13,8,15,6,7,18,4,20,21,24,4,26,4]),(74,[5,6,5,6,17,16,8,9,21,5,6,24,25,5,6]),(110,[2,6,11,17,23,27,2,38,34,2,56,47,2,68,62,2,77,82,87,2]),(59,[6,10,14,17,23,29,32,6]),(98,[2,3,5,6,2]),(78,[2,7,6,3,4,5,12,13,14,17,18,2]),(117,[2,3,6,7,2]),(31,[4,6,4]),(61,[4,8,10,5,11,13,17,4,8,4]),(163,[2,3,2]),(164,[2,3,6,7,11,12,2]),(123,[4,6,8,10,5,11,12,13,4,8,4]),(172,[2,3,5,6,9,10,13,14,16,17,21,22,25,26,29,30,33,34,37,38,41,42,45,46,48,49,53,54,56,57,2]),(199,[2,3,5,6,9,10,12,13,2]),(124,[2,3,5,6,2]),(118,[2,3,6,7,2]),(165,[2,3,2]),(166,[2,3,5,6,10,11,12,18,19,2]),(195,[2,3,5,6,9,10,13,14,2]),(99,[2,3,2]),(100,[4,7,9,4]),(147,[2,3,2]),(33,[2,4,6,8,3,9,10,13,14,15,2,6,20,2]),(116,[4,7,9,4]),(161,[4,6,4]),(194,[4,8,10,5,11,13,17,4,8,4]),(162,[2,2]),(29,[2,2]),(156,[2,2,6,2]),(121,[2,3,9,13,3,9,19,2]),(112,[4,5,7,12,13,6,4,5,18,17,23,24,4,5,26,27,4,5]),(158,[4,6,8,15,16,20,21,4,28,31,32,33,39,4,45,44,4,51,52,55,56,4]),(192,[4,5,6,4]),(213,[4,5,6,8,9,4,12,4]),(101,[4,5,7,10,11,12,15,4]),(159,[4,14,5,6,7,15,8,17,19,20,22,23,5,6,7,26,5,29,28,31,9,33,35,36,4,40,41,42,43,4,52,51,55,54,10,11,60,59,4,63,62,4,68,69,70,4,77,76,80,79,12,13,85,87,88,84,4,92,97,98,91,4,105,104,4,112,113,114,118,119,4,128,127,4,130,129,132,4,137,4,141,140,143,147,152,4,156,155,4,159,158,161,162,4,4]),(132,[4,5,9,10,15,16,18,21,22,20,6,7,8,28,4,30,31,5,35,34,37,4,13,5,4]),(171,[2,3,4,5,6,8,9,15,16,14,21,2,3,4,24,25,23,28,6,30,31,2,3,4,34,35,36,5,12,6,2,3,4]),(63,[2,6,10,12,4,5,15,17,18,22,10,2]),(193,[4,5,12,14,17,18,19,22,4,5,27,28,26,6,7,35,34,6,8,39,41,42,4,5,46,45,9,10,11,51,52,54,6,57,58,4,5]),(86,[4,5,7,4]),(135,[4,5,6,7,4,5]),(173,[4,5,6,7,10,4,5,11,12,14,4,5]),(200,[4,5,7,10,11,12,14,18,4]),(214,[4,5,6,7,4,5]),(223,[4,5,6,7,10,4,5,11,12,4,5]),(75,[2,3,4,2,6,2,8,2,10,2,12,2,14,2,16,2,18,2,2]),(72,[2,3,13,19,25,23,30,7,32,34,3,37,41,36,44,8,10,47,48,51,3,55,12,59,60,3,55,65,3,19,68,72,2]),(107,[7,12,17,18,22,28,7,37,38,47,7,2000010,2000014,2000019,2000030,2000035,1000035,2000042,2000045]),(36,[2,3,9,5,13,15,18,3,9,21,2]),(60,[4,5,6,4]),(109,[15,5,21,25,26,15,31]),(157,[4,6,4]),(191,[4,8,10,5,11,13,17,4,8,4]),(108,[4,5,6,16,4,5,6,7,8,27,10,33,31,11,12,60,59,62,8,67,65,73,8,38,40,43,46,56,8,27,77,78,4,5,6,2000014,2000018,2000022,1000022,2000034,2000064,2000075,2000050,2000053,2000058]),(77,[2,7,9,3,16,22,23,25,27,2,7,2]),(80,[2,3,9,12,13,3,9,23,2]),(76,[4,5,7,4,5]),(113,[6,7,8,14,9,10,15,16,18,19,11,24,26,29,32,9,34,10,35,36,37,39,40,42,45,6,7]),(114,[4,7,4]),(115,[4,7,5,9,6,11,12,4,4,13,4,14,15,4,17,18,4,4]),(160,[2,3,4,2]),(73,[2,2,3,11,15,3,11,21,2]),(51,[4,5,10,8,6,7,17,18,22,23,25,4,5,32,33,4,5,2000011,2000015,2000019,2000031,1000031,2000036]),(52,[4,12,16,11,18,5,7,21,4,23,24,8,34,10,38,39,8,34,44,4]),(81,[4,6,13,11,7,8,20,21,24,26,4,6,9,37,42,44,46,53,54,4,6,2000014,2000018,2000035,3000035,4000035,2000050]),(53,[3,18,3,23,22,4,5,6,28,30,5,31,3,38,8,9,10,49,11,12,56,14,63,15,16,70,71,72,79,81,83,84,87,88,91,92,95,100,101,102,103,3,3,2000032,6000032,2000047,7000047]),(83,[2,3,2]),(84,[6,7,10,12,13,16,17,6,7,8,21,23,25,9,26,28,29,8,23,35,6,7]),(85,[3,4,3]),(87,[3,11,3,20,22,6,7,26,25,8,9,30,3,33,34,20,3]),(88,[2,3,9,11,12,2,3,15,18,19,22,23,2,3,29,28,4,5,35,34,6,7,40,42,8,44,47,8,49,50,51,52,54,55,2,3]),(89,[4,7,9,10,13,4,14,17,18,22,23,26,4,30,29,6,34,35,4,38,39,41,4]),(126,[4,5,8,9,10,14,17,18,0,22,4]),(125,[4,5,8,9,11,14,0,16,4])]
def mvB:List (Nat × List Nat):=[(3,[0]),(5,[0]),(14,[0]),(26,[0]),(109,[0]),(155,[0,2]),(79,[0,2])]
def at3:List (Nat × Nat):=[(105,1),(187,0),(151,2)]
noncomputable def atW:List (Nat × (List Value->Heap->Option (Value × Heap))):=[(155,aik 1 16),(79,aik 2 40),(122,aoJ 3),(82,akQ 83)]
noncomputable def atO:List (Nat × (List V->VH->Option (V × VH))):=[(155,ame 1 16),(79,ame 2 40),(122,aqk 3),(82,amY 83)]
noncomputable def base:abW where
 ng:=1
 tab:=aBL
 fn:=Go.AM.look fnB
 M7:=aCv aCZ
 kind:=auB aBD aCm at3
 ext:=aqY
 aak:=fun f=>Go.AM.look atW f
def ahW:List (List UInt8):=[[74,97,110],[70,101,98],[77,97,114],[65,112,114],[77,97,121],[74,117,110],[74,117,108],[65,117,103],[83,101,112],[79,99,116],[78,111,118],[68,101,99]]
def o6:Nat->Option (List V):=anj 0 ahW
noncomputable def vb:U7 where
 b:=base
 N5:=o6
 F7:=aw0 aAe
 mv:=aw0 mvB
 aak:=fun f=>Go.AM.look atO f
noncomputable def cv:C0:=M8 vb
noncomputable def pc:FuncId->List V->Option V:=T5 cv
noncomputable def qc:FuncId->List V->Option V:=Q3 cv
noncomputable def pco:FuncId->VH->List V->Option V:=abP cv
noncomputable def pcg:FuncId->VH->List V->Option (V × VH):=aem cv
noncomputable def qcd:FuncId->VH->List V->Option V:=adQ cv
noncomputable def qco:FuncId->VH->List V->Option V:=U6 cv
set_option maxRecDepth 100000 in
theorem fns:atV Tryz.prog fnB:=by
 unfold fnB
 refine ⟨⟨rfl,by kernel_rfl⟩,⟨rfl,by kernel_rfl⟩,⟨rfl,by kernel_rfl⟩,⟨rfl,by kernel_rfl⟩,⟨rfl,by kernel_rfl⟩,⟨rfl,by kernel_rfl⟩,⟨rfl,by kernel_rfl⟩,⟨rfl,by kernel_rfl⟩,⟨rfl,by kernel_rfl⟩,⟨rfl,by kernel_rfl⟩,⟨rfl,by kernel_rfl⟩,⟨rfl,by kernel_rfl⟩,⟨rfl,by kernel_rfl⟩,⟨rfl,by kernel_rfl⟩,⟨rfl,by kernel_rfl⟩,⟨rfl,by kernel_rfl⟩,⟨rfl,by kernel_rfl⟩,⟨rfl,by kernel_rfl⟩,⟨rfl,by kernel_rfl⟩,⟨rfl,by kernel_rfl⟩,⟨rfl,by kernel_rfl⟩,⟨rfl,by kernel_rfl⟩,⟨rfl,by kernel_rfl⟩,⟨rfl,by kernel_rfl⟩,⟨rfl,by kernel_rfl⟩,⟨rfl,by kernel_rfl⟩,⟨rfl,by kernel_rfl⟩,⟨rfl,by kernel_rfl⟩,⟨rfl,by kernel_rfl⟩,⟨rfl,by kernel_rfl⟩,⟨rfl,by kernel_rfl⟩,⟨rfl,by kernel_rfl⟩,⟨rfl,by kernel_rfl⟩,⟨rfl,by kernel_rfl⟩,⟨rfl,by kernel_rfl⟩,⟨rfl,by kernel_rfl⟩,⟨rfl,by kernel_rfl⟩,⟨rfl,by kernel_rfl⟩,⟨rfl,by kernel_rfl⟩,⟨rfl,by kernel_rfl⟩,⟨rfl,by kernel_rfl⟩,⟨rfl,by kernel_rfl⟩,⟨rfl,by kernel_rfl⟩,⟨rfl,by kernel_rfl⟩,⟨rfl,by kernel_rfl⟩,⟨rfl,by kernel_rfl⟩,⟨rfl,by kernel_rfl⟩,⟨rfl,by kernel_rfl⟩,⟨rfl,by kernel_rfl⟩,⟨rfl,by kernel_rfl⟩,⟨rfl,by kernel_rfl⟩,⟨rfl,by kernel_rfl⟩,⟨rfl,by kernel_rfl⟩,⟨rfl,by kernel_rfl⟩,⟨rfl,by kernel_rfl⟩,⟨rfl,by kernel_rfl⟩,⟨rfl,by kernel_rfl⟩,⟨rfl,by kernel_rfl⟩,⟨rfl,by kernel_rfl⟩,⟨rfl,by kernel_rfl⟩,⟨rfl,by kernel_rfl⟩,⟨rfl,by kernel_rfl⟩,⟨rfl,by kernel_rfl⟩,⟨rfl,by kernel_rfl⟩,⟨rfl,by kernel_rfl⟩,⟨rfl,by kernel_rfl⟩,⟨rfl,by kernel_rfl⟩,⟨rfl,by kernel_rfl⟩,⟨rfl,by kernel_rfl⟩,⟨rfl,by kernel_rfl⟩,⟨rfl,by kernel_rfl⟩,⟨rfl,by kernel_rfl⟩,⟨rfl,by kernel_rfl⟩,⟨rfl,by kernel_rfl⟩,⟨rfl,by kernel_rfl⟩,⟨rfl,by kernel_rfl⟩,⟨rfl,by kernel_rfl⟩,⟨rfl,by kernel_rfl⟩,⟨rfl,by kernel_rfl⟩,⟨rfl,by kernel_rfl⟩,⟨rfl,by kernel_rfl⟩,⟨rfl,by kernel_rfl⟩,⟨rfl,by kernel_rfl⟩,⟨rfl,by kernel_rfl⟩,⟨rfl,by kernel_rfl⟩,⟨rfl,by kernel_rfl⟩,⟨rfl,by kernel_rfl⟩,⟨rfl,by kernel_rfl⟩,⟨rfl,by kernel_rfl⟩,⟨rfl,by kernel_rfl⟩,⟨rfl,by kernel_rfl⟩,⟨rfl,by kernel_rfl⟩,⟨rfl,by kernel_rfl⟩,⟨rfl,by kernel_rfl⟩,⟨rfl,by kernel_rfl⟩,⟨rfl,by kernel_rfl⟩,⟨rfl,by kernel_rfl⟩,⟨rfl,by kernel_rfl⟩,⟨rfl,by kernel_rfl⟩,⟨rfl,by kernel_rfl⟩,⟨rfl,by kernel_rfl⟩,⟨rfl,by kernel_rfl⟩,⟨rfl,by kernel_rfl⟩,⟨rfl,by kernel_rfl⟩,⟨rfl,by kernel_rfl⟩,⟨rfl,by kernel_rfl⟩,⟨rfl,by kernel_rfl⟩,⟨rfl,by kernel_rfl⟩,⟨rfl,by kernel_rfl⟩,⟨rfl,by kernel_rfl⟩,⟨rfl,by kernel_rfl⟩,⟨rfl,by kernel_rfl⟩,⟨rfl,by kernel_rfl⟩,⟨rfl,by kernel_rfl⟩,⟨rfl,by kernel_rfl⟩,⟨rfl,by kernel_rfl⟩,⟨rfl,by kernel_rfl⟩,⟨rfl,by kernel_rfl⟩,⟨rfl,by kernel_rfl⟩,⟨rfl,by kernel_rfl⟩,⟨rfl,by kernel_rfl⟩,⟨rfl,by kernel_rfl⟩,⟨rfl,by kernel_rfl⟩,⟨rfl,by kernel_rfl⟩,⟨rfl,by kernel_rfl⟩,⟨rfl,by kernel_rfl⟩,trivial⟩
theorem axg:apI Tryz.prog aBL=true:=by kernel_rfl
theorem exts:ajT Tryz.prog at3:=by
 unfold at3
 exact ⟨fun args w=>Go.run_callFunc_extern (fn:=Tryz.f105) (e:=Extern.BytealgCount.count) (by kernel_rfl) (by kernel_rfl) (by kernel_rfl) (by kernel_rfl) (by kernel_rfl) args w,fun args w=>Go.run_callFunc_extern (fn:=Tryz.f187) (e:=Extern.BytealgIndexByte.indexByte) (by kernel_rfl) (by kernel_rfl) (by kernel_rfl) (by kernel_rfl) (by kernel_rfl) args w,trivial,trivial⟩
def aBa:Go.Shelf.Ren:=⟨fun | 22=>155 | 29=>189 | 30=>190 | n=>n,fun | 0=>0 | 3=>3 | 4=>4 | 9=>9 | 24=>29 | n=>n,fun n=>n⟩
theorem aBG:agm Tryz.prog aBa 1 16 (.string (bs [])) where
 f22:=⟨ "slices.Insert[[]string,string]",by decide,Tryz.func155.trans (congrArg some (by kernel_rfl))⟩
 ov:=fun args w=>Go.run_callFunc_extern (fn:=Tryz.f189) Tryz.func189 (by kernel_rfl) (by kernel_rfl) (by kernel_rfl) (e:=Extern.SlicesOverlaps.overlaps #[29,29] #[4]) (by kernel_rfl) args w
 eb0:=by decide
 mixed:=by kernel_rfl
 t0:=Tryz.underlying0
 a0:=Tryz.isAgg0
 z0:=Tryz.sizeOf0
 v0:=Tryz.zeroValue0
 t3:=Tryz.underlying3
 a3:=Tryz.isAgg3
 z3:=Tryz.sizeOf3
 v3:=Tryz.zeroValue3
 t4:=Tryz.underlying4
 a4:=Tryz.isAgg4
 z4:=Tryz.sizeOf4
 v4:=Tryz.zeroValue4
 t24:=Tryz.underlying29
 a24:=Tryz.isAgg29
 z24:=Tryz.sizeOf29
 v24:=Tryz.zeroValue29
 z9:=Tryz.sizeOf9
 v9:=Tryz.zeroValue9
 i9:=by kernel_rfl
 zs:=rfl
 es0:=by decide
def aCp:Go.Shelf.Ren:=⟨fun | 22=>79 | 29=>119 | 30=>120 | n=>n,fun | 0=>0 | 3=>3 | 4=>4 | 9=>99 | 24=>43 | n=>n,fun n=>n⟩
theorem aCj:agm Tryz.prog aCp 2 40 (.agg #[(.string (bs [])),(.slice none 0 0)]) where
 f22:=⟨ "slices.Insert[[]loop.example/mailwire/impl.Box,loop.example/mailwire/impl.Box]",by decide,Tryz.func79.trans (congrArg some (by kernel_rfl))⟩
 ov:=fun args w=>Go.run_callFunc_extern (fn:=Tryz.f119) Tryz.func119 (by kernel_rfl) (by kernel_rfl) (by kernel_rfl) (e:=Extern.SlicesOverlaps.overlaps #[43,43] #[4]) (by kernel_rfl) args w
 eb0:=by decide
 mixed:=by kernel_rfl
 t0:=Tryz.underlying0
 a0:=Tryz.isAgg0
 z0:=Tryz.sizeOf0
 v0:=Tryz.zeroValue0
 t3:=Tryz.underlying3
 a3:=Tryz.isAgg3
 z3:=Tryz.sizeOf3
 v3:=Tryz.zeroValue3
 t4:=Tryz.underlying4
 a4:=Tryz.isAgg4
 z4:=Tryz.sizeOf4
 v4:=Tryz.zeroValue4
 t24:=Tryz.underlying43
 a24:=Tryz.isAgg43
 z24:=Tryz.sizeOf43
 v24:=Tryz.zeroValue43
 z9:=Tryz.sizeOf99
 v9:=Tryz.zeroValue99
 i9:=by kernel_rfl
 zs:=rfl
 es0:=by decide
def aAj:Go.Shelf.Ren:=⟨fun | 24=>122 | n=>n,fun | 0=>0 | 3=>3 | 4=>4 | 9=>31 | 24=>44 | n=>n,fun n=>n⟩
theorem aBB:arD Tryz.prog aAj 3 (.agg #[(.string (bs [])),(.slice none 0 0),(.slice none 0 0)]) where
 f24:=⟨ "slices.Delete[[]loop.example/mailwire/impl.Mail,loop.example/mailwire/impl.Mail]",by decide,Tryz.func122.trans (congrArg some (by kernel_rfl))⟩
 z1:=by decide
 mixed:=by kernel_rfl
 t0:=Tryz.underlying0
 a0:=Tryz.isAgg0
 z0:=Tryz.sizeOf0
 v0:=Tryz.zeroValue0
 t3:=Tryz.underlying3
 a3:=Tryz.isAgg3
 z3:=Tryz.sizeOf3
 v3:=Tryz.zeroValue3
 t4:=Tryz.underlying4
 a4:=Tryz.isAgg4
 z4:=Tryz.sizeOf4
 v4:=Tryz.zeroValue4
 t24:=Tryz.underlying44
 a24:=Tryz.isAgg44
 z24:=Tryz.sizeOf44
 v24:=Tryz.zeroValue44
 z9:=Tryz.sizeOf31
 v9:=Tryz.zeroValue31
 i9:=by kernel_rfl
 zs:=rfl
 es0:=by decide
def aCs:Go.Shelf.Ren:=⟨fun | 6=>61 | 10=>82 | n=>n,fun | 0=>0 | 3=>3 | 4=>4 | 22=>29 | 23=>9 | 25=>57 | n=>n,fun n=>n⟩
theorem aCG:ay1 Tryz.prog aCs 83 where
 L:={
 mixed:=by kernel_rfl
 f6:=⟨ "slices.IndexFunc[[]string,string]",by decide,Tryz.func61.trans (congrArg some (by kernel_rfl))⟩
 f10:=⟨ "slices.DeleteFunc[[]string,string]",by decide,Tryz.func82.trans (congrArg some (by kernel_rfl))⟩
 t0:=Tryz.underlying0
 a0:=Tryz.isAgg0
 z0:=Tryz.sizeOf0
 v0:=Tryz.zeroValue0
 t3:=Tryz.underlying3
 a3:=Tryz.isAgg3
 z3:=Tryz.sizeOf3
 v3:=Tryz.zeroValue3
 t4:=Tryz.underlying4
 a4:=Tryz.isAgg4
 z4:=Tryz.sizeOf4
 v4:=Tryz.zeroValue4
 t22:=Tryz.underlying29
 a22:=Tryz.isAgg29
 z22:=Tryz.sizeOf29
 v22:=Tryz.zeroValue29
 a23:=Tryz.isAgg9
 z23:=Tryz.sizeOf9
 t25:=Tryz.underlying57
 a25:=Tryz.isAgg57
 z25:=Tryz.sizeOf57
 v25:=Tryz.zeroValue57
 }
 v23:=Tryz.zeroValue9
 eg:=fun args w=>enters_of Tryz.func83 (by kernel_rfl) rfl args w
 pg:=fun s W=>by
  show Calls Tryz.prog 83 #[.string s] W _
  go_enter Tryz.func83,Tryz.ntmps83
  go_wp2
  all_goals (go_ret; exact ⟨by simp_all [axm],0,rfl⟩)
theorem av1:aoE Tryz.prog 1 atW:=⟨fun args hp r hp' h=>aqZ 1 aBG h,fun args hp r hp' h=>aqZ 1 aCj h,fun args hp r hp' h=>ax7 1 aBB h,fun args hp r hp' h=>avo 1 aCG h,trivial⟩
theorem azC:ahZ Tryz.prog base where
 tab:=anS axg
 fn:=avQ fns
 ext:=aAn exts
 aak:=aqn (P:=Tryz.prog) (ng:=1) av1
 mixed:=by kernel_rfl
theorem awp:alL vb atO:=⟨fun args H r H' h=>aqR (b:=base) rfl h,fun args H r H' h=>aqR (b:=base) rfl h,fun args H r H' h=>aw5 (b:=base) rfl h,fun args H r H' h=>av9 (b:=base) rfl h,trivial⟩
theorem aCQ:akR vb where
 zero:=axb (anS axg)
 sl:=aA7 (anS axg)
 gd:=fun g cs h=>by exact at7 h
 pos:=as0 (by kernel_rfl)
 auU:=fun f h=>ao4 (f:=f) (l:=atO) (l':=atW) rfl h
 aak:=apm awp
end Go.Proofs.YtaapfgpeeghmeaaGreatDoor.Q
