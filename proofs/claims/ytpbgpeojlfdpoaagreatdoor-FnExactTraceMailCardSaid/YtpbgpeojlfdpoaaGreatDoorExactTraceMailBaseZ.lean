/- The program's functions, types and marks, as the machines take them. -/
import Derived.Test.YtpbgpeojlfdpoaaGreatDoorProg
import Derived.Test.YtpbgpeojlfdpoaaGreatDoorFnExactTraceMailK4
import Derived.KernelRfl
namespace Go.Proofs.YtpbgpeojlfdpoaaGreatDoor.Q
open Go Go.AM Go.Proofs Go.Shelf
set_option linter.unusedVariables false
def S5:Nat:=3
def Y5:Nat:=8
def Q1:Nat:=32
def S0:Nat:=10
def X5:Nat:=39
def Y6:Nat:=11
def W4:Nat:=9
def abS:Nat:=33
def acp:Nat:=94
def abn:Nat:=159
def aef:Nat:=80
def aaF:Nat:=78
def abH:Nat:=151
def M5:Nat:=90
def aay:Nat:=65
def adv:Nat:=138
def Y2:Nat:=77
def acT:Nat:=139
def M1:Nat:=95
def abQ:Nat:=202
def adr:Nat:=152
def aap:Nat:=96
def aai:Nat:=34
def Q6:Nat:=35
def acu:Nat:=97
def abm:Nat:=160
def abv:Nat:=162
def adA:Nat:=161
def Q5:Nat:=98
def aaS:Nat:=36
def adG:Nat:=99
def ace:Nat:=163
def aaW:Nat:=37
def aa7:Nat:=38
def abU:Nat:=100
def K7:Nat:=101
def acw:Nat:=102
def P8:Nat:=103
def D8:Nat:=12
def abN:Nat:=40
def aa4:Nat:=104
def ady:Nat:=164
def abt:Nat:=166
def adF:Nat:=87
def O9:Nat:=155
def H8:Nat:=209
def J4:Nat:=237
def acF:Nat:=137
def S6:Nat:=59
def T4:Nat:=127
def ahJ:Nat:=181
def abX:Nat:=218
def ack:Nat:=182
def acn:Nat:=175
def z8:Nat:=109
def I4:Nat:=169
def Y4:Nat:=201
def abP:Nat:=153
def aao:Nat:=170
def V0:Nat:=149
def acx:Nat:=176
def V5:Nat:=172
def aaj:Nat:=42
def U3:Nat:=110
def ac0:Nat:=111
def W5:Nat:=171
def Q7:Nat:=165
def acy:Nat:=167
def V6:Nat:=214
def abR:Nat:=71
def Q4:Nat:=41
def abF:Nat:=106
def J2:Nat:=105
def adx:Nat:=107
def aax:Nat:=108
def O6:Nat:=168
def ac2:Nat:=43
def Y3:Nat:=88
def R4:Nat:=112
def J3:Nat:=173
def acf:Nat:=44
def F3:Nat:=113
def abe:Nat:=46
def abT:Nat:=116
def A3:Nat:=117
def J6:Nat:=45
def K6:Nat:=13
def X6:Nat:=47
def aaq:Nat:=14
def T7:Nat:=48
def K0:Nat:=118
def S3:Nat:=15
def N6:Nat:=49
noncomputable def ayc:List (Nat × TI):=[
 (24,⟨.struct [(0,1,false),(1,1,false),(2,1,false)],true,3,[(.string (bs [])),(.slice none 0 0),(.slice none 0 0)]⟩),
 (26,⟨.struct [(0,1,false),(1,1,false),(2,1,false),(3,1,false),(4,1,false),(5,1,false),(6,1,false)],true,7,[(.int .i64 0),(.int .i64 0),(.int .i64 0),(.int .i64 0),(.int .i64 0),(.int .i64 0),(.int .i64 0)]⟩),
 (9,⟨.str,false,1,[(.string (bs []))]⟩),
 (3,⟨.int .i64,false,1,[(.int .i64 0)]⟩),
 (28,⟨.struct [(0,1,false),(1,1,false),(2,1,false)],true,3,[(.string (bs [])),(.slice none 0 0),(.slice none 0 0)]⟩),
 (32,⟨.struct [(0,1,false),(1,1,false),(2,1,false),(3,1,false),(4,1,false),(5,1,false),(6,1,false)],true,7,[(.int .i64 0),(.int .i64 0),(.int .i64 0),(.int .i64 0),(.int .i64 0),(.int .i64 0),(.int .i64 0)]⟩),
 (4,⟨.bool,false,1,[(.bool false)]⟩),
 (22,⟨.slice 9 1 16 [(.string (bs []))],false,1,[(.slice none 0 0)]⟩),
 (47,⟨.struct [(0,1,false),(1,1,false),(2,1,false)],true,3,[(.string (bs [])),(.string (bs [])),(.string (bs []))]⟩),
 (5,⟨.int .u8,false,1,[(.int .u8 0)]⟩),
 (37,⟨.slice 5 1 1 [(.int .u8 0)],false,1,[(.slice none 0 0)]⟩),
 (118,⟨.slice 3 1 8 [(.int .i64 0)],false,1,[(.slice none 0 0)]⟩),
 (60,⟨.other,false,1,[.nilFunc]⟩),
 (213,⟨.int .u32,false,1,[(.int .u32 0)]⟩),
 (21,⟨.int .i32,false,1,[(.int .i32 0)]⟩),
 (208,⟨.arr 256 1,true,256,[(.int .u8 0),(.int .u8 0),(.int .u8 0),(.int .u8 0),(.int .u8 0),(.int .u8 0),(.int .u8 0),(.int .u8 0),(.int .u8 0),(.int .u8 0),(.int .u8 0),(.int .u8 0),(.int .u8 0),(.int .u8 0),(.int .u8 0),(.int .u8 0),(.int .u8 0),(.int .u8 0),(.int .u8 0),(.int .u8 0),(.int .u8 0),(.int .u8 0),(.int .u8 0),(.int .u8 0),(.int .u8 0),(.int .u8 0),(.int .u8 0),(.int .u8 0),(.int .u8 0),(.int .u8 0),(.int .u8 0),(.int .u8 0),(.int .u8 0),(.int .u8 0),(.int .u8 0),(.int .u8 0),(.int .u8 0),(.int .u8 0),(.int .u8 0),(.int .u8 0),(.int .u8 0),(.int .u8 0),(.int .u8 0),(.int .u8 0),(.int .u8 0),(.int .u8 0),(.int .u8 0),(.int .u8 0),(.int .u8 0),(.int .u8 0),(.int .u8 0),(.int .u8 0),(.int .u8 0),(.int .u8 0),(.int .u8 0),(.int .u8 0),(.int .u8 0),(.int .u8 0),(.int .u8 0),(.int .u8 0),(.int .u8 0),(.int .u8 0),(.int .u8 0),(.int .u8 0),(.int .u8 0),(.int .u8 0),(.int .u8 0),(.int .u8 0),(.int .u8 0),(.int .u8 0),(.int .u8 0),(.int .u8 0),(.int .u8 0),(.int .u8 0),(.int .u8 0),(.int .u8 0),(.int .u8 0),(.int .u8 0),(.int .u8 0),(.int .u8 0),(.int .u8 0),(.int .u8 0),(.int .u8 0),(.int .u8 0),(.int .u8 0),(.int .u8 0),(.int .u8 0),(.int .u8 0),(.int .u8 0),(.int .u8 0),(.int .u8 0),(.int .u8 0),(.int .u8 0),(.int .u8 0),(.int .u8 0),(.int .u8 0),(.int .u8 0),(.int .u8 0),(.int .u8 0),(.int .u8 0),(.int .u8 0),(.int .u8 0),(.int .u8 0),(.int .u8 0),(.int .u8 0),(.int .u8 0),(.int .u8 0),(.int .u8 0),(.int .u8 0),(.int .u8 0),(.int .u8 0),(.int .u8 0),(.int .u8 0),(.int .u8 0),(.int .u8 0),(.int .u8 0),(.int .u8 0),(.int .u8 0),(.int .u8 0),(.int .u8 0),(.int .u8 0),(.int .u8 0),(.int .u8 0),(.int .u8 0),(.int .u8 0),(.int .u8 0),(.int .u8 0),(.int .u8 0),(.int .u8 0),(.int .u8 0),(.int .u8 0),(.int .u8 0),(.int .u8 0),(.int .u8 0),(.int .u8 0),(.int .u8 0),(.int .u8 0),(.int .u8 0),(.int .u8 0),(.int .u8 0),(.int .u8 0),(.int .u8 0),(.int .u8 0),(.int .u8 0),(.int .u8 0),(.int .u8 0),(.int .u8 0),(.int .u8 0),(.int .u8 0),(.int .u8 0),(.int .u8 0),(.int .u8 0),(.int .u8 0),(.int .u8 0),(.int .u8 0),(.int .u8 0),(.int .u8 0),(.int .u8 0),(.int .u8 0),(.int .u8 0),(.int .u8 0),(.int .u8 0),(.int .u8 0),(.int .u8 0),(.int .u8 0),(.int .u8 0),(.int .u8 0),(.int .u8 0),(.int .u8 0),(.int .u8 0),(.int .u8 0),(.int .u8 0),(.int .u8 0),(.int .u8 0),(.int .u8 0),(.int .u8 0),(.int .u8 0),(.int .u8 0),(.int .u8 0),(.int .u8 0),(.int .u8 0),(.int .u8 0),(.int .u8 0),(.int .u8 0),(.int .u8 0),(.int .u8 0),(.int .u8 0),(.int .u8 0),(.int .u8 0),(.int .u8 0),(.int .u8 0),(.int .u8 0),(.int .u8 0),(.int .u8 0),(.int .u8 0),(.int .u8 0),(.int .u8 0),(.int .u8 0),(.int .u8 0),(.int .u8 0),(.int .u8 0),(.int .u8 0),(.int .u8 0),(.int .u8 0),(.int .u8 0),(.int .u8 0),(.int .u8 0),(.int .u8 0),(.int .u8 0),(.int .u8 0),(.int .u8 0),(.int .u8 0),(.int .u8 0),(.int .u8 0),(.int .u8 0),(.int .u8 0),(.int .u8 0),(.int .u8 0),(.int .u8 0),(.int .u8 0),(.int .u8 0),(.int .u8 0),(.int .u8 0),(.int .u8 0),(.int .u8 0),(.int .u8 0),(.int .u8 0),(.int .u8 0),(.int .u8 0),(.int .u8 0),(.int .u8 0),(.int .u8 0),(.int .u8 0),(.int .u8 0),(.int .u8 0),(.int .u8 0),(.int .u8 0),(.int .u8 0),(.int .u8 0),(.int .u8 0),(.int .u8 0),(.int .u8 0),(.int .u8 0),(.int .u8 0),(.int .u8 0),(.int .u8 0),(.int .u8 0),(.int .u8 0),(.int .u8 0),(.int .u8 0),(.int .u8 0),(.int .u8 0),(.int .u8 0),(.int .u8 0),(.int .u8 0),(.int .u8 0)]⟩),
 (211,⟨.arr 16 2,true,32,[(.int .u8 0),(.int .u8 0),(.int .u8 0),(.int .u8 0),(.int .u8 0),(.int .u8 0),(.int .u8 0),(.int .u8 0),(.int .u8 0),(.int .u8 0),(.int .u8 0),(.int .u8 0),(.int .u8 0),(.int .u8 0),(.int .u8 0),(.int .u8 0),(.int .u8 0),(.int .u8 0),(.int .u8 0),(.int .u8 0),(.int .u8 0),(.int .u8 0),(.int .u8 0),(.int .u8 0),(.int .u8 0),(.int .u8 0),(.int .u8 0),(.int .u8 0),(.int .u8 0),(.int .u8 0),(.int .u8 0),(.int .u8 0)]⟩),
 (210,⟨.struct [(0,1,false),(1,1,false)],true,2,[(.int .u8 0),(.int .u8 0)]⟩),
 (103,⟨.other,false,1,[.nilFunc]⟩),
 (116,⟨.arr 12 1,true,12,[(.string (bs [])),(.string (bs [])),(.string (bs [])),(.string (bs [])),(.string (bs [])),(.string (bs [])),(.string (bs [])),(.string (bs [])),(.string (bs [])),(.string (bs [])),(.string (bs [])),(.string (bs []))]⟩),
 (156,⟨.arr 7 1,true,7,[(.string (bs [])),(.string (bs [])),(.string (bs [])),(.string (bs [])),(.string (bs [])),(.string (bs [])),(.string (bs []))]⟩)]
noncomputable def azl:List (Nat × T8):=[
 (3,{ loc:=[3,5,8,10,11,16],loops:=[],l7:=[(27,29,[(.ret,⟨[6],[],[]⟩),(.normal,⟨[14],[(11,(11,0))],[(11,3)]⟩)]),(16,18,[(.ret,⟨[6],[],[]⟩),(.normal,⟨[1,9],[(3,(3,0)),(5,(5,0)),(8,(8,0)),(11,(11,0))],[(3,3),(5,7),(8,3),(11,3)]⟩)]),(10,12,[(.ret,⟨[6],[],[]⟩),(.normal,⟨[1,9,12],[(3,(3,0)),(5,(5,0)),(8,(8,0)),(10,(10,0)),(11,(11,0))],[(3,3),(5,7),(8,3),(10,3),(11,3)]⟩)])],full:=[],n9:=false }),
 (8,{ loc:=[2],loops:=[],l7:=[],full:=[],n9:=false }),
 (32,{ loc:=[],loops:=[(5,⟨⟨[0,1,5],[],[]⟩,[(.exit 0,⟨[1],[],[]⟩),(.ret,⟨[4],[],[]⟩)]⟩)],l7:=[],full:=[],n9:=false }),
 (10,{ loc:=[1,2,3],loops:=[],l7:=[],full:=[],n9:=false }),
 (39,{ loc:=[],loops:=[(3,⟨⟨[0,3,4],[],[]⟩,[(.exit 0,⟨[3],[],[]⟩)]⟩)],l7:=[],full:=[],n9:=false }),
 (11,{ loc:=[1,2,3],loops:=[],l7:=[],full:=[],n9:=false }),
 (9,{ loc:=[3,5,6,8],loops:=[],l7:=[(1,3,[(.ret,⟨[7],[(6,(6,0))],[(6,3)]⟩),(.normal,⟨[1],[(3,(3,0)),(5,(5,0)),(6,(6,0))],[(3,3),(5,7),(6,3)]⟩)])],full:=[46],n9:=false }),
 (33,{ loc:=[1],loops:=[],l7:=[],full:=[],n9:=false }),
 (94,{ loc:=[1],loops:=[(9,⟨⟨[4],[(1,(1,0))],[(1,3)]⟩,[(.exit 2,⟨[],[],[]⟩),(.ret,⟨[2],[],[]⟩)]⟩),(4,⟨⟨[3],[(1,(1,0))],[(1,3)]⟩,[(.exit 0,⟨[],[(1,(1,0))],[(1,3)]⟩),(.ret,⟨[2],[],[]⟩)]⟩)],l7:=[(1,3,[(.ret,⟨[2],[],[]⟩),(.normal,⟨[],[(1,(1,0))],[(1,3)]⟩)])],full:=[],n9:=false }),
 (159,{ loc:=[3],loops:=[],l7:=[],full:=[],n9:=false }),
 (80,{ loc:=[2,7],loops:=[],l7:=[],full:=[],n9:=false }),
 (78,{ loc:=[],loops:=[(2,⟨⟨[0,1,7],[],[]⟩,[(.exit 0,⟨[0],[],[]⟩),(.ret,⟨[4,5,6],[],[]⟩)]⟩)],l7:=[],full:=[],n9:=false }),
 (151,{ loc:=[],loops:=[(3,⟨⟨[0,6,7],[],[]⟩,[(.exit 0,⟨[],[],[]⟩),(.ret,⟨[4,5],[],[]⟩)]⟩)],l7:=[(5,4,[(.ret,⟨[4,5],[],[]⟩),(.normal,⟨[0,6,7],[],[]⟩)]),(7,11,[(.ret,⟨[4,5],[],[]⟩),(.normal,⟨[0,6,7],[],[]⟩)])],full:=[],n9:=false }),
 (90,{ loc:=[],loops:=[(3,⟨⟨[3,4],[],[]⟩,[(.exit 0,⟨[3],[],[]⟩)]⟩)],l7:=[(5,4,[(.normal,⟨[3,4],[],[]⟩)])],full:=[],n9:=false }),
 (65,{ loc:=[1],loops:=[],l7:=[],full:=[],n9:=false }),
 (138,{ loc:=[],loops:=[],l7:=[],full:=[],n9:=false }),
 (77,{ loc:=[],loops:=[(2,⟨⟨[0,3],[],[]⟩,[(.exit 0,⟨[0],[],[]⟩),(.ret,⟨[2],[],[]⟩)]⟩)],l7:=[(4,3,[(.ret,⟨[2],[],[]⟩),(.normal,⟨[0,3],[],[]⟩)]),(2,4,[(.normal,⟨[0,3],[],[]⟩),(.exit 0,⟨[0],[],[]⟩)])],full:=[],n9:=false }),
 (139,{ loc:=[],loops:=[(3,⟨⟨[0,3,4],[],[]⟩,[(.exit 0,⟨[0],[],[]⟩),(.ret,⟨[2],[],[]⟩)]⟩)],l7:=[],full:=[],n9:=false }),
 (95,{ loc:=[],loops:=[(4,⟨⟨[0,1,5,6,7],[],[]⟩,[(.exit 0,⟨[0,5,6],[],[]⟩)]⟩)],l7:=[(6,5,[(.normal,⟨[0,1,5,6,7],[],[]⟩)])],full:=[],n9:=false }),
 (202,{ loc:=[],loops:=[(2,⟨⟨[0,3],[],[]⟩,[(.exit 0,⟨[0],[],[]⟩),(.ret,⟨[2],[],[]⟩)]⟩)],l7:=[(2,4,[(.normal,⟨[0,3],[],[]⟩),(.exit 0,⟨[0],[],[]⟩)])],full:=[],n9:=false }),
 (152,{ loc:=[],loops:=[(2,⟨⟨[0,3],[],[]⟩,[(.exit 0,⟨[0],[],[]⟩),(.ret,⟨[2],[],[]⟩)]⟩)],l7:=[],full:=[],n9:=false }),
 (96,{ loc:=[],loops:=[],l7:=[],full:=[],n9:=false }),
 (34,{ loc:=[],loops:=[(3,⟨⟨[0,3,4],[],[]⟩,[(.exit 0,⟨[0],[],[]⟩),(.ret,⟨[2],[],[]⟩)]⟩),(9,⟨⟨[0,3,4,5,6],[],[]⟩,[(.exit 2,⟨[0,3,4],[],[]⟩),(.ret,⟨[2],[],[]⟩)]⟩)],l7:=[(5,4,[(.ret,⟨[2],[],[]⟩),(.normal,⟨[0,3,4],[],[]⟩)]),(11,10,[(.ret,⟨[2],[],[]⟩),(.normal,⟨[0,3,4,5,6],[],[]⟩)]),(6,8,[(.ret,⟨[2],[],[]⟩),(.normal,⟨[0,3,4,5],[],[]⟩)])],full:=[],n9:=false }),
 (35,{ loc:=[1],loops:=[],l7:=[],full:=[],n9:=false }),
 (97,{ loc:=[1],loops:=[],l7:=[],full:=[],n9:=false }),
 (160,{ loc:=[],loops:=[],l7:=[(4,6,[(.ret,⟨[4],[],[]⟩),(.normal,⟨[1,5],[],[]⟩)]),(1,3,[(.ret,⟨[4],[],[]⟩),(.normal,⟨[0,1],[],[]⟩)])],full:=[],n9:=false }),
 (162,{ loc:=[],loops:=[],l7:=[],full:=[],n9:=false }),
 (161,{ loc:=[],loops:=[],l7:=[],full:=[],n9:=false }),
 (98,{ loc:=[1],loops:=[(9,⟨⟨[3,5],[(1,(1,0))],[(1,7)]⟩,[(.exit 2,⟨[3],[(1,(1,0))],[(1,7)]⟩)]⟩),(3,⟨⟨[3,4],[(1,(1,0))],[(1,7)]⟩,[(.exit 0,⟨[3],[(1,(1,0))],[(1,7)]⟩)]⟩)],l7:=[(5,4,[(.normal,⟨[3,4],[(1,(1,0))],[(1,7)]⟩)])],full:=[],n9:=false }),
 (36,{ loc:=[],loops:=[(3,⟨⟨[0,3,4],[],[]⟩,[(.exit 0,⟨[3],[],[]⟩)]⟩)],l7:=[(5,4,[(.normal,⟨[0,3,4],[],[]⟩)]),(3,5,[(.normal,⟨[0,3,4],[],[]⟩),(.exit 0,⟨[3],[],[]⟩)])],full:=[],n9:=false }),
 (99,{ loc:=[],loops:=[],l7:=[],full:=[],n9:=false }),
 (163,{ loc:=[],loops:=[],l7:=[],full:=[],n9:=false }),
 (37,{ loc:=[1,2],loops:=[],l7:=[],full:=[8,12],n9:=false }),
 (38,{ loc:=[1],loops:=[],l7:=[(5,8,[(.normal,⟨[3,4],[(1,(1,0))],[(1,7)]⟩)])],full:=[],n9:=false }),
 (100,{ loc:=[1],loops:=[],l7:=[],full:=[],n9:=false }),
 (101,{ loc:=[],loops:=[(6,⟨⟨[0,3],[],[]⟩,[(.exit 0,⟨[0,3],[],[]⟩)]⟩)],l7:=[],full:=[],n9:=false }),
 (102,{ loc:=[],loops:=[],l7:=[],full:=[],n9:=false }),
 (103,{ loc:=[],loops:=[],l7:=[],full:=[],n9:=false }),
 (12,{ loc:=[3,5,6,8],loops:=[],l7:=[(1,3,[(.ret,⟨[7],[(6,(6,0))],[(6,3)]⟩),(.normal,⟨[1],[(3,(3,0)),(5,(5,0)),(6,(6,0))],[(3,3),(5,7),(6,3)]⟩)])],full:=[],n9:=false }),
 (40,{ loc:=[1],loops:=[],l7:=[],full:=[],n9:=false }),
 (104,{ loc:=[3],loops:=[],l7:=[],full:=[],n9:=false }),
 (164,{ loc:=[],loops:=[],l7:=[],full:=[],n9:=false }),
 (166,{ loc:=[],loops:=[],l7:=[],full:=[],n9:=false }),
 (87,{ loc:=[],loops:=[],l7:=[],full:=[],n9:=false }),
 (155,{ loc:=[],loops:=[],l7:=[],full:=[],n9:=false }),
 (209,{ loc:=[],loops:=[(15,⟨⟨[0,1,5,6,7,8,9,10],[],[]⟩,[(.exit 1,⟨[],[],[]⟩),(.ret,⟨[4],[],[]⟩)]⟩)],l7:=[(21,23,[(.ret,⟨[4],[],[]⟩),(.normal,⟨[0,1,5,6,7,8,9,10],[],[]⟩)]),(16,21,[(.ret,⟨[4],[],[]⟩),(.normal,⟨[0,1,5,6,7,8,9,10],[],[]⟩)]),(2,10,[(.ret,⟨[4],[],[]⟩),(.normal,⟨[0,1,5],[],[]⟩)])],full:=[],n9:=false }),
 (237,{ loc:=[],loops:=[],l7:=[],full:=[],n9:=false }),
 (239,{ loc:=[],loops:=[],l7:=[],full:=[],n9:=false }),
 (240,{ loc:=[],loops:=[(11,⟨⟨[0,1,5,6,7,8,10],[],[]⟩,[(.exit 2,⟨[],[],[]⟩),(.ret,⟨[4],[],[]⟩)]⟩),(5,⟨⟨[0,1,5,6,7,8,9],[],[]⟩,[(.exit 0,⟨[0,1,5,6,7,8],[],[]⟩)]⟩)],l7:=[(8,10,[(.ret,⟨[4],[],[]⟩),(.normal,⟨[0,1,5,6,7,8],[],[]⟩)])],full:=[],n9:=false }),
 (254,{ loc:=[],loops:=[(8,⟨⟨[4,6,7,8],[],[]⟩,[(.exit 2,⟨[4,6],[],[]⟩)]⟩),(3,⟨⟨[0,4,5],[],[]⟩,[(.exit 0,⟨[0,4],[],[]⟩)]⟩)],l7:=[(10,9,[(.normal,⟨[4,6,7,8],[],[]⟩)]),(10,12,[(.normal,⟨[4,6,7,8],[],[]⟩)])],full:=[],n9:=false }),
 (137,{ loc:=[],loops:=[],l7:=[],full:=[],n9:=false }),
 (59,{ loc:=[],loops:=[],l7:=[],full:=[],n9:=false }),
 (127,{ loc:=[],loops:=[(11,⟨⟨[0,1,2,3,9,10],[],[]⟩,[(.exit 0,⟨[0,9,10],[],[]⟩)]⟩)],l7:=[(5,7,[(.normal,⟨[0,1,2,3],[],[]⟩)])],full:=[],n9:=false }),
 (181,{ loc:=[],loops:=[(6,⟨⟨[0,1,6,7],[],[]⟩,[(.exit 0,⟨[0,1,6],[],[]⟩)]⟩)],l7:=[(2,4,[(.normal,⟨[0,1],[],[]⟩)])],full:=[],n9:=false }),
 (218,{ loc:=[],loops:=[],l7:=[],full:=[],n9:=false }),
 (205,{ loc:=[],loops:=[],l7:=[],full:=[],n9:=false }),
 (234,{ loc:=[9],loops:=[],l7:=[],full:=[],n9:=false }),
 (182,{ loc:=[],loops:=[(6,⟨⟨[0,1,5],[],[]⟩,[(.ret,⟨[4],[],[]⟩)]⟩)],l7:=[],full:=[],n9:=false }),
 (175,{ loc:=[],loops:=[],l7:=[],full:=[],n9:=false }),
 (109,{ loc:=[],loops:=[],l7:=[],full:=[],n9:=false }),
 (169,{ loc:=[],loops:=[(2,⟨⟨[0,1,7,8],[],[]⟩,[(.exit 0,⟨[],[],[]⟩),(.ret,⟨[4],[],[]⟩)]⟩)],l7:=[],full:=[],n9:=true }),
 (201,{ loc:=[],loops:=[],l7:=[],full:=[],n9:=false }),
 (153,{ loc:=[],loops:=[],l7:=[],full:=[],n9:=false }),
 (170,{ loc:=[],loops:=[(2,⟨⟨[0,1,7,8],[],[]⟩,[(.exit 0,⟨[],[],[]⟩),(.ret,⟨[4],[],[]⟩)]⟩)],l7:=[],full:=[],n9:=true }),
 (149,{ loc:=[],loops:=[],l7:=[],full:=[],n9:=false }),
 (176,{ loc:=[],loops:=[],l7:=[],full:=[],n9:=false }),
 (172,{ loc:=[],loops:=[],l7:=[],full:=[],n9:=false }),
 (42,{ loc:=[],loops:=[],l7:=[],full:=[],n9:=false }),
 (110,{ loc:=[],loops:=[],l7:=[],full:=[],n9:=false }),
 (111,{ loc:=[],loops:=[],l7:=[],full:=[],n9:=false }),
 (171,{ loc:=[],loops:=[],l7:=[],full:=[],n9:=false }),
 (165,{ loc:=[],loops:=[],l7:=[],full:=[],n9:=false }),
 (167,{ loc:=[],loops:=[],l7:=[],full:=[],n9:=false }),
 (214,{ loc:=[],loops:=[],l7:=[],full:=[],n9:=false }),
 (71,{ loc:=[],loops:=[(2,⟨⟨[0,5,6],[],[]⟩,[(.exit 0,⟨[0],[],[]⟩),(.ret,⟨[2],[],[]⟩)]⟩)],l7:=[],full:=[],n9:=false }),
 (41,{ loc:=[1],loops:=[],l7:=[],full:=[],n9:=false }),
 (106,{ loc:=[],loops:=[],l7:=[(12,16,[(.normal,⟨[0,11,20],[],[]⟩)]),(4,11,[(.normal,⟨[0,11,12],[],[]⟩)]),(1,3,[(.ret,⟨[4],[],[]⟩),(.normal,⟨[0,1],[],[]⟩)])],full:=[],n9:=false }),
 (105,{ loc:=[],loops:=[],l7:=[],full:=[],n9:=false }),
 (107,{ loc:=[],loops:=[],l7:=[],full:=[],n9:=false }),
 (108,{ loc:=[1],loops:=[],l7:=[],full:=[],n9:=false }),
 (168,{ loc:=[],loops:=[(3,⟨⟨[0,1,7,8],[],[]⟩,[(.exit 0,⟨[7],[],[]⟩)]⟩),(6,⟨⟨[0,1,7,8,9],[],[]⟩,[(.exit 2,⟨[0,1,7,8],[],[]⟩)]⟩)],l7:=[(6,8,[(.normal,⟨[0,1,7,8,9],[],[]⟩),(.exit 2,⟨[0,1,7,8],[],[]⟩)])],full:=[],n9:=false }),
 (43,{ loc:=[1],loops:=[(3,⟨⟨[3,7,8,9],[],[]⟩,[(.exit 0,⟨[3],[],[]⟩)]⟩)],l7:=[],full:=[],n9:=false }),
 (88,{ loc:=[],loops:=[(3,⟨⟨[3,8,9,10],[],[]⟩,[(.exit 0,⟨[3],[],[]⟩)]⟩)],l7:=[],full:=[],n9:=false }),
 (112,{ loc:=[],loops:=[],l7:=[],full:=[],n9:=false }),
 (173,{ loc:=[],loops:=[],l7:=[],full:=[],n9:=false }),
 (44,{ loc:=[1,2],loops:=[],l7:=[],full:=[],n9:=false }),
 (113,{ loc:=[],loops:=[],l7:=[],full:=[7],n9:=false }),
 (46,{ loc:=[1],loops:=[],l7:=[(4,6,[(.normal,⟨[3,4],[(1,(1,0))],[(1,7)]⟩)])],full:=[],n9:=false }),
 (116,{ loc:=[1],loops:=[],l7:=[],full:=[],n9:=false }),
 (117,{ loc:=[],loops:=[(2,⟨⟨[0,1,5],[],[]⟩,[(.exit 0,⟨[5],[],[]⟩)]⟩)],l7:=[(2,3,[(.normal,⟨[0,1,5],[],[]⟩),(.exit 0,⟨[5],[],[]⟩)])],full:=[],n9:=false }),
 (13,{ loc:=[2,3],loops:=[],l7:=[],full:=[],n9:=false }),
 (47,{ loc:=[],loops:=[(4,⟨⟨[0,1,5],[],[]⟩,[(.exit 0,⟨[],[],[]⟩),(.ret,⟨[4],[],[]⟩)]⟩)],l7:=[],full:=[],n9:=false }),
 (14,{ loc:=[2],loops:=[],l7:=[],full:=[],n9:=false }),
 (48,{ loc:=[],loops:=[(2,⟨⟨[0,1,5],[],[]⟩,[(.exit 0,⟨[1],[],[]⟩)]⟩)],l7:=[],full:=[],n9:=false }),
 (118,{ loc:=[],loops:=[(4,⟨⟨[0,3],[],[]⟩,[(.exit 0,⟨[3],[],[]⟩)]⟩)],l7:=[],full:=[],n9:=false }),
 (15,{ loc:=[2],loops:=[],l7:=[],full:=[],n9:=false }),
 (49,{ loc:=[],loops:=[(2,⟨⟨[0,1,5],[],[]⟩,[(.exit 0,⟨[1],[],[]⟩),(.ret,⟨[4],[],[]⟩)]⟩)],l7:=[],full:=[],n9:=false })]
noncomputable def fnB:List (Nat × Func):=[
 (3,Tryz.f3),(8,Tryz.f8),(32,Tryz.f32),(10,Tryz.f10),(39,Tryz.f39),(11,Tryz.f11),(9,Tryz.f9),(33,Tryz.f33),(94,Tryz.f94),(159,Tryz.f159),(80,Tryz.f80),(78,Tryz.f78),(151,Tryz.f151),(90,Tryz.f90),(65,Tryz.f65),(138,Tryz.f138),(77,Tryz.f77),(139,Tryz.f139),(95,Tryz.f95),(202,Tryz.f202),(152,Tryz.f152),(96,Tryz.f96),(34,Tryz.f34),(35,Tryz.f35),(97,Tryz.f97),(160,Tryz.f160),(162,Tryz.f162),(161,Tryz.f161),(98,Tryz.f98),(36,Tryz.f36),(99,Tryz.f99),(163,Tryz.f163),(37,Tryz.f37),(38,Tryz.f38),(100,Tryz.f100),(101,Tryz.f101),(102,Tryz.f102),(103,Tryz.f103),(12,Tryz.f12),(40,Tryz.f40),(104,Tryz.f104),(164,Tryz.f164),(166,Tryz.f166),(87,Tryz.f87),(155,Tryz.f155),(209,Tryz.f209),(237,Tryz.f237),(239,Tryz.f239),(240,Tryz.f240),(254,Tryz.f254),(137,Tryz.f137),(59,Tryz.f59),(127,Tryz.f127),(181,Tryz.f181),(218,Tryz.f218),(205,Tryz.f205),(234,Tryz.f234),(182,Tryz.f182),(175,Tryz.f175),(109,Tryz.f109),(169,Tryz.f169),(201,Tryz.f201),(153,Tryz.f153),(170,Tryz.f170),(149,Tryz.f149),(176,Tryz.f176),(172,Tryz.f172),(42,Tryz.f42),(110,Tryz.f110),(111,Tryz.f111),(171,Tryz.f171),(165,Tryz.f165),(167,Tryz.f167),(214,Tryz.f214),(71,Tryz.f71),(41,Tryz.f41),(106,Tryz.f106),(105,Tryz.f105),(107,Tryz.f107),(108,Tryz.f108),(168,Tryz.f168),(43,Tryz.f43),(88,Tryz.f88),(112,Tryz.f112),(173,Tryz.f173),(44,Tryz.f44),(113,Tryz.f113),(46,Tryz.f46),(116,Tryz.f116),(117,Tryz.f117),(13,Tryz.f13),(47,Tryz.f47),(14,Tryz.f14),(48,Tryz.f48),(118,Tryz.f118),(15,Tryz.f15),(49,Tryz.f49)]
def ayA:List Nat:=[3,8,32,33,94,159,78,151,90,65,138,77,139,202,152,96,34,35,97,160,162,161,98,36,99,163,38,100,101,103,40,104,164,166,87,155,209,237,239,240,254,137,218,205,234,182,175,109,169,201,153,170,149,176,172,42,110,111,171,165,167,214,71,41,106,105,107,108,168,43,88,112,173,46,116,117,13,47,118,15,49]
def ay4:List Nat:=[9,80,95,37,102,12,59,127,181,44,113]
def ayE:List (Nat × List Nat):=[(3,[6,18,6,7,22,7,24,6,29,26,9,39,37,12,49,50,51,6,6,13,60,13,62,64,70,71,72,6,14,76,14,15,79,15,81,6,83,84,6,89,86,17,99,100,101,6,15,105,15,107,6,109,110,6,6,2000023,2000028,2000031,2000032,2000036,2000041,2000042,6000042,2000047,2000056,2000057,2000061,2000067,2000077,2000080,2000088,2000091,2000092,6000092,2000097,2000106]),(8,[4,5,1,10,4,14,1,16,4,20,1,22,4,24,4]),(32,[4,6,1,10,4,5,12,18,20,1,25,4,16,5,27,4]),(10,[15]),(39,[2,3,4,8,15,17,12,4,21,2]),(9,[7,12,13,17,22,28,7,37,45,48,7]),(33,[2,5,11,2]),(94,[2,8,14,20,2,3,26,35,2,31,3,4,40,49,2,45,4,2]),(159,[2,6,5,4,10,11,18,2]),(80,[3,9,8,4,5,6,14,15,19,20,3]),(78,[4,5,6,7,10,11,14,15,19,20,18,8,9,24,26,4,5,6,27,7,28,29,31,33,34,36,37,4,5,6,40,7,42,4,5,6]),(151,[4,5,6,8,7,10,11,16,17,20,21,4,5,23,24,27,7,29,30,4,5,33,34,35,36,6,14,7,4,5]),(90,[2,5,4,7,14,18,20,26,28,11,4,2]),(65,[2,6,12,17,23,2]),(138,[2,3,5,6,2]),(77,[2,3,4,5,8,9,14,15,18,19,20,2,12,3,24,2]),(139,[2,5,4,7,14,2,11,4,19,2]),(95,[4,5,6,7,9,10,15,16,18,20,21,22,23,5,27,6,13,7,29,30,31,4]),(202,[2,3,4,5,8,9,14,15,2,12,3,19,22,23,2]),(152,[2,3,4,8,9,2,6,3,12,2]),(96,[2,3,5,6,9,10,12,13,17,18,20,21,2]),(34,[2,7,4,9,16,5,19,21,22,26,27,28,2,6,34,35,40,41,45,46,47,51,52,53,56,57,58,2,38,6,13,4,63,2]),(35,[2,2,3,9,11,12,2]),(97,[2,6,16,21,26,31,36,41,46,2]),(160,[4,6,8,9,12,13,16,17,4,21,23,24,4,28,4]),(162,[2,3,6,7,10,11,2]),(161,[2,3,5,6,2]),(98,[2,3,4,9,15,3,17,19,3,13,4,5,21,27,30,3,25,5,33,2]),(36,[2,3,4,5,9,11,19,23,3,16,4,25,2]),(99,[2,3,6,7,2]),(163,[4,5,7,4]),(37,[7,11]),(38,[2,2,3,4,10,3,12,4,50,52,56,2]),(100,[2,2,2]),(101,[2,4,2,6,8,2,3,12,14,20,3,22,0,24,29,2]),(102,[0,0]),(103,[2,3,6,2]),(12,[7,12,17,18,22,28,7,37,38,47,7,2000010,2000014,2000019,2000030,2000035,1000035,2000042,2000045]),(40,[2,2]),(104,[6,10,14,17,23,29,32,6]),(164,[2,3,5,6,2]),(166,[2,7,6,3,4,5,12,13,14,17,18,2]),(87,[4,5,6,7,8,4,5,6]),(155,[4,5,6,8,9,7,11,13,14,16,17,18,4,5,6,22,4,5,6]),(209,[4,14,5,17,19,20,21,16,4,25,24,27,28,4,32,33,31,4,37,40,41,36,45,46,4,48,6,50,7,8,52,54,9,10,57,58,60,61,63,65,66,68,70,11,72,4,74,75,8,78,79,82,84,85,86,87,88,91,94,4,95,8,97,10,99,102,103,104,108,109,111,12,113,115,116,4,4,118,121,122,123,128,129,130,133,134,136,13,138,4,140,141,4,4]),(237,[4,5,6,4]),(239,[2,3,2]),(240,[4,12,11,5,6,16,7,8,9,18,19,23,25,26,8,21,9,30,31,33,34,35,37,4,40,10,41,42,45,8,47,48,49,8,53,54,55,56,57,8,63,10,65,66,68,69,70,71,73,75,78,79,4,4]),(254,[2,3,4,5,9,10,15,17,18,4,13,5,6,7,22,8,24,28,31,32,6,34,35,7,26,8,37,38,2,3]),(137,[2,3,6,7,2]),(59,[4,5,6,4,2000007,6000007]),(127,[8,12,8,14,16,17,8,19,21,22,3,25,26,3,30,32,3,10,34,35,37,38,11,40,43,44,45,46,50,51,52,0,56,10,59,60,63,8]),(181,[4,10,5,12,14,15,16,19,1,20,6,7,22,23,29,28,8,9,34,35,36,39,40,0,26,7,42,45,47,49,4]),(218,[2,3,7,2,9,2]),(205,[2,3,4,6,7,11,2,3,15,14,2,3]),(234,[2,3,13,4,15,2,3,17,5,19,6,22,24,7,28,31,33,2,3,36,8,39,43,44,2,3,46,10,48,52,55,2,3,58,60,64,2,3,68,11,70,72,73,2,3,76,78,82,87,2,3,91,12,93,95,96,2,3,99,103,108,113,2,3]),(182,[4,7,10,4,13,16,17,4,5,20,21,6,23,25,4,26,5,28,29,30,0]),(175,[4,5,6,4]),(109,[4,6,4]),(169,[4,8,10,5,11,13,17,4,8,4]),(201,[2,3,2]),(153,[2,3,6,7,11,12,2]),(170,[4,6,8,10,5,11,12,13,4,8,4]),(149,[2,3,5,6,9,10,13,14,16,17,21,22,25,26,29,30,33,34,37,38,41,42,45,46,48,49,53,54,56,57,2]),(176,[2,3,5,6,9,10,12,13,2]),(172,[2,3,5,6,2]),(42,[2,3,6,7,2]),(110,[2,3,2]),(111,[2,3,5,6,10,11,12,18,19,2]),(171,[2,3,5,6,9,10,13,14,2]),(165,[2,3,2]),(167,[4,7,9,4]),(214,[2,3,2]),(71,[2,4,6,8,3,9,10,13,14,15,2,6,20,2]),(41,[2,11,16,21,26,31,2]),(106,[4,5,7,8,4,11,12,12,12,12,12,12,12,4,20,20,20,20,4,25,27,30,31,35,36,4,4,4]),(105,[6,7,8,10,11,12,6]),(107,[2,3,2]),(108,[2,2]),(168,[6,10,7,8,12,13,9,17,19,20,21,23,24,25,31,32,33,7,29,9,15,8,36,6]),(43,[2,3,9,5,13,15,18,3,9,21,2]),(88,[2,6,10,12,4,5,15,17,18,22,10,2]),(112,[4,5,6,4]),(173,[4,5,7,10,11,12,15,4]),(113,[2,2,6,2]),(46,[2,2,3,4,10,12,3,4,48,50,54,2]),(116,[2,2,2]),(117,[4,5,6,8,9,12,14,18,5,20,0,22,1,24,4]),(13,[4,4,4,4,4]),(47,[4,4,5,11,18,22,4,15,5,4]),(14,[4,7,1,11,1,13,4]),(48,[4,5,6,13,14,17,1,10,5,19,4]),(118,[2,4,2,3,6,8,14,3,16,0,18,2]),(15,[4,7,1,9,4,13,1,15,4,17,4]),(49,[4,5,6,13,16,4,19,1,10,5,21,4])]
def mvB:List (Nat × List Nat):=[(45,[0,2])]
def ari:List (Nat × Nat):=[(253,0),(238,2),(219,1)]
noncomputable def arH:List (Nat × (List Value->Heap->Option (Value × Heap))):=[(45,aih 1 16)]
noncomputable def arY:List (Nat × (List V->VH->Option (V × VH))):=[(45,amn 1 16)]
noncomputable def base:abO where
 ng:=1
 tab:=ayc
 fn:=Go.AM.look fnB
 H7:=ayT azl
 kind:=arM ayA ay4 ari
 ext:=aoO
 Z3:=fun f=>Go.AM.look arH f
def aqG:List (List UInt8):=[[74,97,110],[70,101,98],[77,97,114],[65,112,114],[77,97,121],[74,117,110],[74,117,108],[65,117,103],[83,101,112],[79,99,116],[78,111,118],[68,101,99]]
def I7:Nat->Option (List V):=alF 0 aqG
noncomputable def vb:V1 where
 b:=base
 I1:=I7
 C9:=asv ayE
 mv:=asv mvB
 Z3:=fun f=>Go.AM.look arY f
noncomputable def cv:y6:=K8 vb
noncomputable def pc:FuncId->List V->Option V:=W7 cv
noncomputable def qc:FuncId->List V->Option V:=M0 cv
noncomputable def pco:FuncId->VH->List V->Option V:=V4 cv
noncomputable def pcg:FuncId->VH->List V->Option (V × VH):=aaa cv
noncomputable def qco:FuncId->VH->List V->Option V:=K5 cv
set_option maxRecDepth 100000 in
theorem fns:arP Tryz.prog fnB:=by
 unfold fnB
 refine ⟨⟨rfl,by kernel_rfl⟩,⟨rfl,by kernel_rfl⟩,⟨rfl,by kernel_rfl⟩,⟨rfl,by kernel_rfl⟩,⟨rfl,by kernel_rfl⟩,⟨rfl,by kernel_rfl⟩,⟨rfl,by kernel_rfl⟩,⟨rfl,by kernel_rfl⟩,⟨rfl,by kernel_rfl⟩,⟨rfl,by kernel_rfl⟩,⟨rfl,by kernel_rfl⟩,⟨rfl,by kernel_rfl⟩,⟨rfl,by kernel_rfl⟩,⟨rfl,by kernel_rfl⟩,⟨rfl,by kernel_rfl⟩,⟨rfl,by kernel_rfl⟩,⟨rfl,by kernel_rfl⟩,⟨rfl,by kernel_rfl⟩,⟨rfl,by kernel_rfl⟩,⟨rfl,by kernel_rfl⟩,⟨rfl,by kernel_rfl⟩,⟨rfl,by kernel_rfl⟩,⟨rfl,by kernel_rfl⟩,⟨rfl,by kernel_rfl⟩,⟨rfl,by kernel_rfl⟩,⟨rfl,by kernel_rfl⟩,⟨rfl,by kernel_rfl⟩,⟨rfl,by kernel_rfl⟩,⟨rfl,by kernel_rfl⟩,⟨rfl,by kernel_rfl⟩,⟨rfl,by kernel_rfl⟩,⟨rfl,by kernel_rfl⟩,⟨rfl,by kernel_rfl⟩,⟨rfl,by kernel_rfl⟩,⟨rfl,by kernel_rfl⟩,⟨rfl,by kernel_rfl⟩,⟨rfl,by kernel_rfl⟩,⟨rfl,by kernel_rfl⟩,⟨rfl,by kernel_rfl⟩,⟨rfl,by kernel_rfl⟩,⟨rfl,by kernel_rfl⟩,⟨rfl,by kernel_rfl⟩,⟨rfl,by kernel_rfl⟩,⟨rfl,by kernel_rfl⟩,⟨rfl,by kernel_rfl⟩,⟨rfl,by kernel_rfl⟩,⟨rfl,by kernel_rfl⟩,⟨rfl,by kernel_rfl⟩,⟨rfl,by kernel_rfl⟩,⟨rfl,by kernel_rfl⟩,⟨rfl,by kernel_rfl⟩,⟨rfl,by kernel_rfl⟩,⟨rfl,by kernel_rfl⟩,⟨rfl,by kernel_rfl⟩,⟨rfl,by kernel_rfl⟩,⟨rfl,by kernel_rfl⟩,⟨rfl,by kernel_rfl⟩,⟨rfl,by kernel_rfl⟩,⟨rfl,by kernel_rfl⟩,⟨rfl,by kernel_rfl⟩,⟨rfl,by kernel_rfl⟩,⟨rfl,by kernel_rfl⟩,⟨rfl,by kernel_rfl⟩,⟨rfl,by kernel_rfl⟩,⟨rfl,by kernel_rfl⟩,⟨rfl,by kernel_rfl⟩,⟨rfl,by kernel_rfl⟩,⟨rfl,by kernel_rfl⟩,⟨rfl,by kernel_rfl⟩,⟨rfl,by kernel_rfl⟩,⟨rfl,by kernel_rfl⟩,⟨rfl,by kernel_rfl⟩,⟨rfl,by kernel_rfl⟩,⟨rfl,by kernel_rfl⟩,⟨rfl,by kernel_rfl⟩,⟨rfl,by kernel_rfl⟩,⟨rfl,by kernel_rfl⟩,⟨rfl,by kernel_rfl⟩,⟨rfl,by kernel_rfl⟩,⟨rfl,by kernel_rfl⟩,⟨rfl,by kernel_rfl⟩,⟨rfl,by kernel_rfl⟩,⟨rfl,by kernel_rfl⟩,⟨rfl,by kernel_rfl⟩,⟨rfl,by kernel_rfl⟩,⟨rfl,by kernel_rfl⟩,⟨rfl,by kernel_rfl⟩,⟨rfl,by kernel_rfl⟩,⟨rfl,by kernel_rfl⟩,⟨rfl,by kernel_rfl⟩,⟨rfl,by kernel_rfl⟩,⟨rfl,by kernel_rfl⟩,⟨rfl,by kernel_rfl⟩,⟨rfl,by kernel_rfl⟩,⟨rfl,by kernel_rfl⟩,⟨rfl,by kernel_rfl⟩,⟨rfl,by kernel_rfl⟩,trivial⟩
theorem auH:anM Tryz.prog ayc=true:=by kernel_rfl
theorem exts:aiy Tryz.prog ari:=by
 unfold ari
 exact ⟨fun args w=>Go.run_callFunc_extern (fn:=Tryz.f253) (e:=Extern.BytealgIndexByte.indexByte) (by kernel_rfl) (by kernel_rfl) (by kernel_rfl) (by kernel_rfl) (by kernel_rfl) args w,trivial,fun args w=>Go.run_callFunc_extern (fn:=Tryz.f219) (e:=Extern.BytealgCount.count) (by kernel_rfl) (by kernel_rfl) (by kernel_rfl) (by kernel_rfl) (by kernel_rfl) args w,trivial⟩
def ayO:Go.Shelf.Ren:=⟨fun | 22=>45 | 29=>114 | 30=>115 | n=>n,fun | 0=>0 | 3=>3 | 4=>4 | 9=>9 | 24=>22 | n=>n,fun n=>n⟩
theorem ay2:agD Tryz.prog ayO 1 16 (.string (bs [])) where
 f22:=⟨ "slices.Insert[[]string,string]",by decide,Tryz.func45.trans (congrArg some (by kernel_rfl))⟩
 ov:=fun args w=>Go.run_callFunc_extern (fn:=Tryz.f114) Tryz.func114 (by kernel_rfl) (by kernel_rfl) (by kernel_rfl) (e:=Extern.SlicesOverlaps.overlaps #[22,22] #[4]) (by kernel_rfl) args w
 eb0:=by decide
 mixed:=by kernel_rfl
 t0:=Tryz.underlying0
 a0:=Tryz.isAgg0
 z0:=Tryz.sizeOf0
 v0:=Tryz.zeroValue0
 t3:=Tryz.underlying3
 a3:=Tryz.isAgg3
 z3:=Tryz.sizeOf3
 v3:=Tryz.zeroValue3
 t4:=Tryz.underlying4
 a4:=Tryz.isAgg4
 z4:=Tryz.sizeOf4
 v4:=Tryz.zeroValue4
 t24:=Tryz.underlying22
 a24:=Tryz.isAgg22
 z24:=Tryz.sizeOf22
 v24:=Tryz.zeroValue22
 z9:=Tryz.sizeOf9
 v9:=Tryz.zeroValue9
 i9:=by kernel_rfl
 zs:=rfl
 es0:=by decide
theorem ast:amH Tryz.prog 1 arH:=⟨fun args hp r hp' h=>auK 1 ay2 h,trivial⟩
theorem awO:agi Tryz.prog base where
 tab:=alB auH
 fn:=asC fns
 ext:=aw9 exts
 Z3:=ao8 (P:=Tryz.prog) (ng:=1) ast
 mixed:=by kernel_rfl
theorem atS:aj8 vb arY:=⟨fun args H r H' h=>auY (b:=base) rfl h,trivial⟩
theorem ayN:aiJ vb where
 zero:=avd (alB auH)
 sl:=axL (alB auH)
 gd:=fun g cs h=>by exact arJ h
 pos:=aq6 (by kernel_rfl)
 atL:=fun f h=>ank (f:=f) (l:=arY) (l':=arH) rfl h
 Z3:=anc atS
end Go.Proofs.YtpbgpeojlfdpoaaGreatDoor.Q
