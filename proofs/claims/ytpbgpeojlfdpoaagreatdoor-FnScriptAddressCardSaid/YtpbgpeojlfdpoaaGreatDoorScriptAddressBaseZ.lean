/- The program's functions, types and marks, as the machines take them. -/
import Derived.Test.YtpbgpeojlfdpoaaGreatDoorProg
import Derived.Test.YtpbgpeojlfdpoaaGreatDoorFnScriptAddressK4
import Derived.KernelRfl
namespace Go.Proofs.YtpbgpeojlfdpoaaGreatDoor.Q
open Go Go.AM Go.Proofs Go.Shelf
set_option linter.unusedVariables false
def S5:Nat:=6
def K0:Nat:=23
def aaf:Nat:=51
def D5:Nat:=67
def D7:Nat:=68
def acw:Nat:=70
def W6:Nat:=66
def J7:Nat:=65
def acp:Nat:=138
def O8:Nat:=77
def abU:Nat:=139
def J9:Nat:=95
def V6:Nat:=202
def aaU:Nat:=152
def X9:Nat:=96
def abr:Nat:=34
def aa1:Nat:=140
def aac:Nat:=203
def acB:Nat:=69
def K9:Nat:=24
def L2:Nat:=71
def abX:Nat:=72
def F8:Nat:=142
def G7:Nat:=141
def aev:Nat:=143
def adx:Nat:=145
def ad7:Nat:=144
def acO:Nat:=147
def adl:Nat:=146
def K6:Nat:=73
def V7:Nat:=148
def Q2:Nat:=74
def U4:Nat:=88
def P0:Nat:=64
def abM:Nat:=137
def M9:Nat:=59
def R6:Nat:=127
def ahJ:Nat:=181
def abw:Nat:=182
def abe:Nat:=218
def abt:Nat:=175
def F7:Nat:=209
def I2:Nat:=237
def B5:Nat:=109
def F9:Nat:=169
def V3:Nat:=201
def U3:Nat:=153
def X4:Nat:=170
def N7:Nat:=149
def abz:Nat:=176
def S8:Nat:=172
def abu:Nat:=42
def T3:Nat:=110
def abH:Nat:=111
def U2:Nat:=171
def T4:Nat:=75
def X3:Nat:=76
def I3:Nat:=150
def H7:Nat:=208
def aeN:Nat:=54
def P6:Nat:=25
def aaT:Nat:=79
def O5:Nat:=78
def W9:Nat:=151
def abq:Nat:=80
def V0:Nat:=90
def Z8:Nat:=81
def T0:Nat:=82
def G8:Nat:=19
def ab6:Nat:=58
def aaG:Nat:=126
def F1:Nat:=105
def aaD:Nat:=107
def Q1:Nat:=106
def U6:Nat:=41
def X8:Nat:=108
def T1:Nat:=168
def U8:Nat:=60
def acx:Nat:=87
def N5:Nat:=155
def afm:Nat:=128
def af6:Nat:=129
def als:Nat:=130
def aiR:Nat:=131
def aiJ:Nat:=132
def ag3:Nat:=46
def I5:Nat:=133
def J0:Nat:=26
def V5:Nat:=83
def aiB:Nat:=199
def ahO:Nat:=21
def aiI:Nat:=28
def ahT:Nat:=31
def ahQ:Nat:=200
def ahu:Nat:=17
noncomputable def awy:List (Nat × TI):=[
 (37,⟨.slice 5 1 1 [(.int .u8 0)],false,1,[(.slice none 0 0)]⟩),
 (3,⟨.int .i64,false,1,[(.int .i64 0)]⟩),
 (9,⟨.str,false,1,[(.string (bs []))]⟩),
 (47,⟨.struct [(0,1,false),(1,1,false),(2,1,false)],true,3,[(.string (bs [])),(.string (bs [])),(.string (bs []))]⟩),
 (4,⟨.bool,false,1,[(.bool false)]⟩),
 (70,⟨.other,false,1,[(.pointer none)]⟩),
 (22,⟨.slice 9 1 16 [(.string (bs []))],false,1,[(.slice none 0 0)]⟩),
 (120,⟨.struct [(0,1,false),(1,1,false)],true,2,[(.slice none 0 0),(.int .i64 0)]⟩),
 (5,⟨.int .u8,false,1,[(.int .u8 0)]⟩),
 (142,⟨.arr 256 1,true,256,[(.bool false),(.bool false),(.bool false),(.bool false),(.bool false),(.bool false),(.bool false),(.bool false),(.bool false),(.bool false),(.bool false),(.bool false),(.bool false),(.bool false),(.bool false),(.bool false),(.bool false),(.bool false),(.bool false),(.bool false),(.bool false),(.bool false),(.bool false),(.bool false),(.bool false),(.bool false),(.bool false),(.bool false),(.bool false),(.bool false),(.bool false),(.bool false),(.bool false),(.bool false),(.bool false),(.bool false),(.bool false),(.bool false),(.bool false),(.bool false),(.bool false),(.bool false),(.bool false),(.bool false),(.bool false),(.bool false),(.bool false),(.bool false),(.bool false),(.bool false),(.bool false),(.bool false),(.bool false),(.bool false),(.bool false),(.bool false),(.bool false),(.bool false),(.bool false),(.bool false),(.bool false),(.bool false),(.bool false),(.bool false),(.bool false),(.bool false),(.bool false),(.bool false),(.bool false),(.bool false),(.bool false),(.bool false),(.bool false),(.bool false),(.bool false),(.bool false),(.bool false),(.bool false),(.bool false),(.bool false),(.bool false),(.bool false),(.bool false),(.bool false),(.bool false),(.bool false),(.bool false),(.bool false),(.bool false),(.bool false),(.bool false),(.bool false),(.bool false),(.bool false),(.bool false),(.bool false),(.bool false),(.bool false),(.bool false),(.bool false),(.bool false),(.bool false),(.bool false),(.bool false),(.bool false),(.bool false),(.bool false),(.bool false),(.bool false),(.bool false),(.bool false),(.bool false),(.bool false),(.bool false),(.bool false),(.bool false),(.bool false),(.bool false),(.bool false),(.bool false),(.bool false),(.bool false),(.bool false),(.bool false),(.bool false),(.bool false),(.bool false),(.bool false),(.bool false),(.bool false),(.bool false),(.bool false),(.bool false),(.bool false),(.bool false),(.bool false),(.bool false),(.bool false),(.bool false),(.bool false),(.bool false),(.bool false),(.bool false),(.bool false),(.bool false),(.bool false),(.bool false),(.bool false),(.bool false),(.bool false),(.bool false),(.bool false),(.bool false),(.bool false),(.bool false),(.bool false),(.bool false),(.bool false),(.bool false),(.bool false),(.bool false),(.bool false),(.bool false),(.bool false),(.bool false),(.bool false),(.bool false),(.bool false),(.bool false),(.bool false),(.bool false),(.bool false),(.bool false),(.bool false),(.bool false),(.bool false),(.bool false),(.bool false),(.bool false),(.bool false),(.bool false),(.bool false),(.bool false),(.bool false),(.bool false),(.bool false),(.bool false),(.bool false),(.bool false),(.bool false),(.bool false),(.bool false),(.bool false),(.bool false),(.bool false),(.bool false),(.bool false),(.bool false),(.bool false),(.bool false),(.bool false),(.bool false),(.bool false),(.bool false),(.bool false),(.bool false),(.bool false),(.bool false),(.bool false),(.bool false),(.bool false),(.bool false),(.bool false),(.bool false),(.bool false),(.bool false),(.bool false),(.bool false),(.bool false),(.bool false),(.bool false),(.bool false),(.bool false),(.bool false),(.bool false),(.bool false),(.bool false),(.bool false),(.bool false),(.bool false),(.bool false),(.bool false),(.bool false),(.bool false),(.bool false),(.bool false),(.bool false),(.bool false),(.bool false),(.bool false),(.bool false),(.bool false),(.bool false),(.bool false),(.bool false),(.bool false),(.bool false),(.bool false),(.bool false),(.bool false),(.bool false),(.bool false),(.bool false),(.bool false),(.bool false),(.bool false)]⟩),
 (146,⟨.other,false,1,[(.pointer none)]⟩),
 (60,⟨.other,false,1,[.nilFunc]⟩),
 (213,⟨.int .u32,false,1,[(.int .u32 0)]⟩),
 (103,⟨.other,false,1,[.nilFunc]⟩),
 (78,⟨.struct [(0,1,false),(1,6,true),(7,7,true)],true,14,[(.slice none 0 0),(.int .i64 0),(.string (bs [])),(.string (bs [])),(.slice none 0 0),(.slice none 0 0),(.slice none 0 0),(.int .i64 0),(.int .i64 0),(.int .i64 0),(.int .i64 0),(.int .i64 0),(.int .i64 0),(.int .i64 0)]⟩),
 (32,⟨.struct [(0,1,false),(1,1,false),(2,1,false),(3,1,false),(4,1,false),(5,1,false),(6,1,false)],true,7,[(.int .i64 0),(.int .i64 0),(.int .i64 0),(.int .i64 0),(.int .i64 0),(.int .i64 0),(.int .i64 0)]⟩),
 (134,⟨.other,false,1,[(.pointer none)]⟩),
 (73,⟨.slice 168 2 40 [(.string (bs [])),(.slice none 0 0)],false,1,[(.slice none 0 0)]⟩),
 (76,⟨.struct [(0,1,false),(1,1,false),(2,3,true),(5,1,false)],true,6,[(.int .i64 0),(.string (bs [])),(.string (bs [])),(.slice none 0 0),(.slice none 0 0),(.slice none 0 0)]⟩),
 (74,⟨.slice 28 3 64 [(.string (bs [])),(.slice none 0 0),(.slice none 0 0)],false,1,[(.slice none 0 0)]⟩),
 (116,⟨.arr 12 1,true,12,[(.string (bs [])),(.string (bs [])),(.string (bs [])),(.string (bs [])),(.string (bs [])),(.string (bs [])),(.string (bs [])),(.string (bs [])),(.string (bs [])),(.string (bs [])),(.string (bs [])),(.string (bs []))]⟩),
 (156,⟨.arr 7 1,true,7,[(.string (bs [])),(.string (bs [])),(.string (bs [])),(.string (bs [])),(.string (bs [])),(.string (bs [])),(.string (bs []))]⟩),
 (43,⟨.slice 47 3 48 [(.string (bs [])),(.string (bs [])),(.string (bs []))],false,1,[(.slice none 0 0)]⟩),
 (53,⟨.struct [(0,1,false),(1,1,false),(2,1,false)],true,3,[(.string (bs [])),(.string (bs [])),(.slice none 0 0)]⟩),
 (168,⟨.struct [(0,1,false),(1,1,false)],true,2,[(.string (bs [])),(.slice none 0 0)]⟩),
 (28,⟨.struct [(0,1,false),(1,1,false),(2,1,false)],true,3,[(.string (bs [])),(.slice none 0 0),(.slice none 0 0)]⟩)]
noncomputable def ax6:List (Nat × Q0):=[
 (6,{ loc:=[4,6],loops:=[],n9:=[(6,8,[(.ret,⟨[2],[],[]⟩),(.normal,⟨[3,5],[(4,(4,0))],[(4,3)]⟩)])],full:=[],p7:=false }),
 (23,{ loc:=[],loops:=[],n9:=[],full:=[],p7:=false }),
 (51,{ loc:=[],loops:=[],n9:=[(1,3,[(.normal,⟨[0],[],[]⟩)])],full:=[],p7:=false }),
 (67,{ loc:=[],loops:=[],n9:=[(2,4,[(.ret,⟨[4],[],[]⟩),(.normal,⟨[0,1],[],[]⟩)])],full:=[],p7:=false }),
 (68,{ loc:=[],loops:=[],n9:=[],full:=[],p7:=false }),
 (70,{ loc:=[2],loops:=[],n9:=[],full:=[],p7:=false }),
 (66,{ loc:=[1],loops:=[],n9:=[],full:=[],p7:=false }),
 (65,{ loc:=[1],loops:=[],n9:=[],full:=[],p7:=false }),
 (138,{ loc:=[],loops:=[],n9:=[],full:=[],p7:=false }),
 (77,{ loc:=[],loops:=[(2,⟨⟨[0,3],[],[]⟩,[(.exit 0,⟨[0],[],[]⟩),(.ret,⟨[2],[],[]⟩)]⟩)],n9:=[(4,3,[(.ret,⟨[2],[],[]⟩),(.normal,⟨[0,3],[],[]⟩)]),(2,4,[(.normal,⟨[0,3],[],[]⟩),(.exit 0,⟨[0],[],[]⟩)])],full:=[],p7:=false }),
 (139,{ loc:=[],loops:=[(3,⟨⟨[0,3,4],[],[]⟩,[(.exit 0,⟨[0],[],[]⟩),(.ret,⟨[2],[],[]⟩)]⟩)],n9:=[],full:=[],p7:=false }),
 (95,{ loc:=[],loops:=[(4,⟨⟨[0,1,5,6,7],[],[]⟩,[(.exit 0,⟨[0,5,6],[],[]⟩)]⟩)],n9:=[(6,5,[(.normal,⟨[0,1,5,6,7],[],[]⟩)])],full:=[],p7:=false }),
 (202,{ loc:=[],loops:=[(2,⟨⟨[0,3],[],[]⟩,[(.exit 0,⟨[0],[],[]⟩),(.ret,⟨[2],[],[]⟩)]⟩)],n9:=[(2,4,[(.normal,⟨[0,3],[],[]⟩),(.exit 0,⟨[0],[],[]⟩)])],full:=[],p7:=false }),
 (152,{ loc:=[],loops:=[(2,⟨⟨[0,3],[],[]⟩,[(.exit 0,⟨[0],[],[]⟩),(.ret,⟨[2],[],[]⟩)]⟩)],n9:=[],full:=[],p7:=false }),
 (96,{ loc:=[],loops:=[],n9:=[],full:=[],p7:=false }),
 (34,{ loc:=[],loops:=[(3,⟨⟨[0,3,4],[],[]⟩,[(.exit 0,⟨[0],[],[]⟩),(.ret,⟨[2],[],[]⟩)]⟩),(9,⟨⟨[0,3,4,5,6],[],[]⟩,[(.exit 2,⟨[0,3,4],[],[]⟩),(.ret,⟨[2],[],[]⟩)]⟩)],n9:=[(5,4,[(.ret,⟨[2],[],[]⟩),(.normal,⟨[0,3,4],[],[]⟩)]),(11,10,[(.ret,⟨[2],[],[]⟩),(.normal,⟨[0,3,4,5,6],[],[]⟩)]),(6,8,[(.ret,⟨[2],[],[]⟩),(.normal,⟨[0,3,4,5],[],[]⟩)])],full:=[],p7:=false }),
 (140,{ loc:=[],loops:=[],n9:=[],full:=[],p7:=false }),
 (203,{ loc:=[],loops:=[(3,⟨⟨[0,3,4],[],[]⟩,[(.exit 0,⟨[3],[],[]⟩)]⟩)],n9:=[(5,4,[(.normal,⟨[0,3,4],[],[]⟩)]),(5,7,[(.normal,⟨[0,3,4],[],[]⟩)])],full:=[],p7:=false }),
 (69,{ loc:=[],loops:=[],n9:=[(1,3,[(.ret,⟨[6],[],[]⟩),(.normal,⟨[0,1,2],[],[]⟩)])],full:=[],p7:=false }),
 (24,{ loc:=[2],loops:=[],n9:=[(9,11,[(.ret,⟨[3],[(2,(2,0))],[(2,3)]⟩),(.normal,⟨[5,7],[(2,(2,0))],[(2,3)]⟩)])],full:=[],p7:=false }),
 (71,{ loc:=[],loops:=[(2,⟨⟨[0,5,6],[],[]⟩,[(.exit 0,⟨[0],[],[]⟩),(.ret,⟨[2],[],[]⟩)]⟩)],n9:=[],full:=[],p7:=false }),
 (72,{ loc:=[],loops:=[],n9:=[(3,5,[(.ret,⟨[4],[],[]⟩),(.normal,⟨[0,1],[],[]⟩)]),(1,3,[(.ret,⟨[4],[],[]⟩),(.normal,⟨[0,1],[],[]⟩)])],full:=[],p7:=false }),
 (142,{ loc:=[],loops:=[(1,⟨⟨[0,1],[],[]⟩,[(.exit 0,⟨[0],[],[]⟩)]⟩)],n9:=[(1,2,[(.normal,⟨[0,1],[],[]⟩),(.exit 0,⟨[0],[],[]⟩)])],full:=[],p7:=false }),
 (141,{ loc:=[],loops:=[(1,⟨⟨[0,1],[],[]⟩,[(.exit 0,⟨[0],[],[]⟩)]⟩)],n9:=[(1,2,[(.normal,⟨[0,1],[],[]⟩),(.exit 0,⟨[0],[],[]⟩)])],full:=[],p7:=false }),
 (73,{ loc:=[],loops:=[(2,⟨⟨[0,1,5],[],[]⟩,[(.exit 0,⟨[],[],[]⟩),(.ret,⟨[4],[],[]⟩)]⟩)],n9:=[(4,3,[(.ret,⟨[4],[],[]⟩),(.normal,⟨[0,1,5],[],[]⟩)])],full:=[],p7:=false }),
 (148,{ loc:=[],loops:=[(3,⟨⟨[0,5,6],[],[]⟩,[(.exit 0,⟨[],[],[]⟩),(.ret,⟨[2,3,4],[],[]⟩)]⟩)],n9:=[(5,4,[(.ret,⟨[2,3,4],[],[]⟩),(.normal,⟨[0,5,6],[],[]⟩)]),(5,11,[(.ret,⟨[2,3,4],[],[]⟩),(.normal,⟨[0,5,6],[],[]⟩)])],full:=[],p7:=false }),
 (74,{ loc:=[4],loops:=[],n9:=[],full:=[],p7:=false }),
 (88,{ loc:=[],loops:=[(3,⟨⟨[3,8,9,10],[],[]⟩,[(.exit 0,⟨[3],[],[]⟩)]⟩)],n9:=[],full:=[],p7:=false }),
 (64,{ loc:=[1],loops:=[],n9:=[],full:=[],p7:=false }),
 (137,{ loc:=[],loops:=[],n9:=[],full:=[],p7:=false }),
 (59,{ loc:=[],loops:=[],n9:=[],full:=[],p7:=false }),
 (127,{ loc:=[],loops:=[(11,⟨⟨[0,1,2,3,9,10],[],[]⟩,[(.exit 0,⟨[0,9,10],[],[]⟩)]⟩)],n9:=[(5,7,[(.normal,⟨[0,1,2,3],[],[]⟩)])],full:=[],p7:=false }),
 (182,{ loc:=[],loops:=[(6,⟨⟨[0,1,5],[],[]⟩,[(.ret,⟨[4],[],[]⟩)]⟩)],n9:=[],full:=[],p7:=false }),
 (218,{ loc:=[],loops:=[],n9:=[],full:=[],p7:=false }),
 (175,{ loc:=[],loops:=[],n9:=[],full:=[],p7:=false }),
 (209,{ loc:=[],loops:=[(15,⟨⟨[0,1,5,6,7,8,9,10],[],[]⟩,[(.exit 1,⟨[],[],[]⟩),(.ret,⟨[4],[],[]⟩)]⟩)],n9:=[(21,23,[(.ret,⟨[4],[],[]⟩),(.normal,⟨[0,1,5,6,7,8,9,10],[],[]⟩)]),(16,21,[(.ret,⟨[4],[],[]⟩),(.normal,⟨[0,1,5,6,7,8,9,10],[],[]⟩)]),(2,10,[(.ret,⟨[4],[],[]⟩),(.normal,⟨[0,1,5],[],[]⟩)])],full:=[],p7:=false }),
 (237,{ loc:=[],loops:=[],n9:=[],full:=[],p7:=false }),
 (239,{ loc:=[],loops:=[],n9:=[],full:=[],p7:=false }),
 (240,{ loc:=[],loops:=[(11,⟨⟨[0,1,5,6,7,8,10],[],[]⟩,[(.exit 2,⟨[],[],[]⟩),(.ret,⟨[4],[],[]⟩)]⟩),(5,⟨⟨[0,1,5,6,7,8,9],[],[]⟩,[(.exit 0,⟨[0,1,5,6,7,8],[],[]⟩)]⟩)],n9:=[(8,10,[(.ret,⟨[4],[],[]⟩),(.normal,⟨[0,1,5,6,7,8],[],[]⟩)])],full:=[],p7:=false }),
 (254,{ loc:=[],loops:=[(8,⟨⟨[4,6,7,8],[],[]⟩,[(.exit 2,⟨[4,6],[],[]⟩)]⟩),(3,⟨⟨[0,4,5],[],[]⟩,[(.exit 0,⟨[0,4],[],[]⟩)]⟩)],n9:=[(10,9,[(.normal,⟨[4,6,7,8],[],[]⟩)]),(10,12,[(.normal,⟨[4,6,7,8],[],[]⟩)])],full:=[],p7:=false }),
 (109,{ loc:=[],loops:=[],n9:=[],full:=[],p7:=false }),
 (169,{ loc:=[],loops:=[(2,⟨⟨[0,1,7,8],[],[]⟩,[(.exit 0,⟨[],[],[]⟩),(.ret,⟨[4],[],[]⟩)]⟩)],n9:=[],full:=[],p7:=true }),
 (201,{ loc:=[],loops:=[],n9:=[],full:=[],p7:=false }),
 (153,{ loc:=[],loops:=[],n9:=[],full:=[],p7:=false }),
 (170,{ loc:=[],loops:=[(2,⟨⟨[0,1,7,8],[],[]⟩,[(.exit 0,⟨[],[],[]⟩),(.ret,⟨[4],[],[]⟩)]⟩)],n9:=[],full:=[],p7:=true }),
 (149,{ loc:=[],loops:=[],n9:=[],full:=[],p7:=false }),
 (176,{ loc:=[],loops:=[],n9:=[],full:=[],p7:=false }),
 (172,{ loc:=[],loops:=[],n9:=[],full:=[],p7:=false }),
 (42,{ loc:=[],loops:=[],n9:=[],full:=[],p7:=false }),
 (110,{ loc:=[],loops:=[],n9:=[],full:=[],p7:=false }),
 (111,{ loc:=[],loops:=[],n9:=[],full:=[],p7:=false }),
 (171,{ loc:=[],loops:=[],n9:=[],full:=[],p7:=false }),
 (75,{ loc:=[],loops:=[(5,⟨⟨[0,4,5,6],[],[]⟩,[(.exit 0,⟨[4],[],[]⟩),(.ret,⟨[2,3],[],[]⟩)]⟩),(7,⟨⟨[0,4,5,10],[],[]⟩,[(.exit 3,⟨[0,4,5,10],[],[]⟩)]⟩)],n9:=[(7,8,[(.normal,⟨[0,4,5,10],[],[]⟩),(.exit 3,⟨[0,4,5,10],[],[]⟩)])],full:=[],p7:=false }),
 (76,{ loc:=[],loops:=[],n9:=[],full:=[],p7:=false }),
 (150,{ loc:=[],loops:=[],n9:=[],full:=[],p7:=false }),
 (208,{ loc:=[],loops:=[],n9:=[],full:=[],p7:=false }),
 (25,{ loc:=[2,7,11],loops:=[],n9:=[(14,16,[(.ret,⟨[3],[(2,(2,0))],[(2,3)]⟩),(.normal,⟨[],[(2,(2,0)),(11,(11,0))],[(2,3),(11,3)]⟩)]),(9,11,[(.ret,⟨[3],[(2,(2,0))],[(2,3)]⟩),(.normal,⟨[4,5],[(2,(2,0))],[(2,3)]⟩)])],full:=[],p7:=false }),
 (79,{ loc:=[],loops:=[(3,⟨⟨[0],[],[]⟩,[(.exit 2,⟨[0],[],[]⟩)]⟩),(1,⟨⟨[0],[],[]⟩,[(.exit 0,⟨[0],[],[]⟩)]⟩)],n9:=[(3,4,[(.normal,⟨[0],[],[]⟩),(.exit 2,⟨[0],[],[]⟩)]),(1,2,[(.normal,⟨[0],[],[]⟩),(.exit 0,⟨[0],[],[]⟩)])],full:=[],p7:=false }),
 (78,{ loc:=[],loops:=[(2,⟨⟨[0,1,7],[],[]⟩,[(.exit 0,⟨[0],[],[]⟩),(.ret,⟨[4,5,6],[],[]⟩)]⟩)],n9:=[],full:=[],p7:=false }),
 (151,{ loc:=[],loops:=[(3,⟨⟨[0,6,7],[],[]⟩,[(.exit 0,⟨[],[],[]⟩),(.ret,⟨[4,5],[],[]⟩)]⟩)],n9:=[(5,4,[(.ret,⟨[4,5],[],[]⟩),(.normal,⟨[0,6,7],[],[]⟩)]),(7,11,[(.ret,⟨[4,5],[],[]⟩),(.normal,⟨[0,6,7],[],[]⟩)])],full:=[],p7:=false }),
 (80,{ loc:=[2,7],loops:=[],n9:=[],full:=[],p7:=false }),
 (90,{ loc:=[],loops:=[(3,⟨⟨[3,4],[],[]⟩,[(.exit 0,⟨[3],[],[]⟩)]⟩)],n9:=[(5,4,[(.normal,⟨[3,4],[],[]⟩)])],full:=[],p7:=false }),
 (81,{ loc:=[],loops:=[(3,⟨⟨[0,4,5],[],[]⟩,[(.exit 0,⟨[4],[],[]⟩),(.ret,⟨[2,3],[],[]⟩)]⟩),(12,⟨⟨[0,4,5,6],[],[]⟩,[(.exit 2,⟨[0,4,5,6],[],[]⟩)]⟩)],n9:=[(15,17,[(.ret,⟨[2,3],[],[]⟩),(.normal,⟨[0,4,5,7],[],[]⟩)]),(8,15,[(.ret,⟨[2,3],[],[]⟩),(.normal,⟨[0,4,5,6,7],[],[]⟩)]),(12,13,[(.normal,⟨[0,4,5,6],[],[]⟩),(.exit 2,⟨[0,4,5,6],[],[]⟩)])],full:=[],p7:=false }),
 (82,{ loc:=[],loops:=[(3,⟨⟨[0,3,4],[],[]⟩,[(.exit 0,⟨[3],[],[]⟩)]⟩)],n9:=[(5,4,[(.normal,⟨[0,3,4],[],[]⟩)]),(5,7,[(.normal,⟨[0,3,4],[],[]⟩)])],full:=[],p7:=false }),
 (19,{ loc:=[],loops:=[(5,⟨⟨[3,4,12,13,14],[],[]⟩,[(.exit 0,⟨[4],[],[]⟩),(.ret,⟨[2],[],[]⟩)]⟩)],n9:=[(8,10,[(.ret,⟨[2],[],[]⟩),(.normal,⟨[3,4,6,12,13,14],[],[]⟩)])],full:=[],p7:=false }),
 (58,{ loc:=[0,1],loops:=[],n9:=[],full:=[],p7:=false }),
 (126,{ loc:=[4,9],loops:=[(8,⟨⟨[7],[(4,(4,0)),(9,(9,0))],[(4,7),(9,7)]⟩,[(.exit 0,⟨[7],[(4,(4,0)),(9,(9,0))],[(4,7),(9,7)]⟩)]⟩)],n9:=[(8,9,[(.normal,⟨[7],[(4,(4,0)),(9,(9,0))],[(4,7),(9,7)]⟩),(.exit 0,⟨[7],[(4,(4,0)),(9,(9,0))],[(4,7),(9,7)]⟩)]),(1,3,[(.ret,⟨[5],[(4,(4,0))],[(4,7)]⟩),(.normal,⟨[0,1],[(4,(4,0))],[(4,7)]⟩)])],full:=[],p7:=false }),
 (105,{ loc:=[],loops:=[],n9:=[],full:=[],p7:=false }),
 (107,{ loc:=[],loops:=[],n9:=[],full:=[],p7:=false }),
 (106,{ loc:=[],loops:=[],n9:=[(12,16,[(.normal,⟨[0,11,20],[],[]⟩)]),(4,11,[(.normal,⟨[0,11,12],[],[]⟩)]),(1,3,[(.ret,⟨[4],[],[]⟩),(.normal,⟨[0,1],[],[]⟩)])],full:=[],p7:=false }),
 (41,{ loc:=[1],loops:=[],n9:=[],full:=[],p7:=false }),
 (108,{ loc:=[1],loops:=[],n9:=[],full:=[],p7:=false }),
 (168,{ loc:=[],loops:=[(3,⟨⟨[0,1,7,8],[],[]⟩,[(.exit 0,⟨[7],[],[]⟩)]⟩),(6,⟨⟨[0,1,7,8,9],[],[]⟩,[(.exit 2,⟨[0,1,7,8],[],[]⟩)]⟩)],n9:=[(6,8,[(.normal,⟨[0,1,7,8,9],[],[]⟩),(.exit 2,⟨[0,1,7,8],[],[]⟩)])],full:=[],p7:=false }),
 (60,{ loc:=[10],loops:=[],n9:=[],full:=[],p7:=false }),
 (87,{ loc:=[],loops:=[],n9:=[],full:=[],p7:=false }),
 (155,{ loc:=[],loops:=[],n9:=[],full:=[],p7:=false }),
 (128,{ loc:=[],loops:=[],n9:=[],full:=[],p7:=false }),
 (117,{ loc:=[],loops:=[(2,⟨⟨[0,1,5],[],[]⟩,[(.exit 0,⟨[5],[],[]⟩)]⟩)],n9:=[(2,3,[(.normal,⟨[0,1,5],[],[]⟩),(.exit 0,⟨[5],[],[]⟩)])],full:=[],p7:=false }),
 (46,{ loc:=[1],loops:=[],n9:=[(4,6,[(.normal,⟨[3,4],[(1,(1,0))],[(1,7)]⟩)])],full:=[],p7:=false }),
 (116,{ loc:=[1],loops:=[],n9:=[],full:=[],p7:=false }),
 (133,{ loc:=[6,11],loops:=[],n9:=[],full:=[],p7:=false }),
 (26,{ loc:=[1],loops:=[],n9:=[],full:=[],p7:=false }),
 (83,{ loc:=[],loops:=[(7,⟨⟨[0,3,15,16],[],[]⟩,[(.exit 1,⟨[3],[],[]⟩)]⟩)],n9:=[(9,11,[(.normal,⟨[0,3,4,15,16],[],[]⟩)])],full:=[],p7:=false })]
noncomputable def fnB:List (Nat × Func):=[
 (6,Tryz.f6),(23,Tryz.f23),(51,Tryz.f51),(67,Tryz.f67),(68,Tryz.f68),(70,Tryz.f70),(66,Tryz.f66),(65,Tryz.f65),(138,Tryz.f138),(77,Tryz.f77),(139,Tryz.f139),(95,Tryz.f95),(202,Tryz.f202),(152,Tryz.f152),(96,Tryz.f96),(34,Tryz.f34),(140,Tryz.f140),(203,Tryz.f203),(69,Tryz.f69),(24,Tryz.f24),(71,Tryz.f71),(72,Tryz.f72),(142,Tryz.f142),(141,Tryz.f141),(73,Tryz.f73),(148,Tryz.f148),(74,Tryz.f74),(88,Tryz.f88),(64,Tryz.f64),(137,Tryz.f137),(59,Tryz.f59),(127,Tryz.f127),(182,Tryz.f182),(218,Tryz.f218),(175,Tryz.f175),(209,Tryz.f209),(237,Tryz.f237),(239,Tryz.f239),(240,Tryz.f240),(254,Tryz.f254),(109,Tryz.f109),(169,Tryz.f169),(201,Tryz.f201),(153,Tryz.f153),(170,Tryz.f170),(149,Tryz.f149),(176,Tryz.f176),(172,Tryz.f172),(42,Tryz.f42),(110,Tryz.f110),(111,Tryz.f111),(171,Tryz.f171),(75,Tryz.f75),(76,Tryz.f76),(150,Tryz.f150),(208,Tryz.f208),(25,Tryz.f25),(79,Tryz.f79),(78,Tryz.f78),(151,Tryz.f151),(80,Tryz.f80),(90,Tryz.f90),(81,Tryz.f81),(82,Tryz.f82),(19,Tryz.f19),(58,Tryz.f58),(126,Tryz.f126),(105,Tryz.f105),(107,Tryz.f107),(106,Tryz.f106),(41,Tryz.f41),(108,Tryz.f108),(168,Tryz.f168),(60,Tryz.f60),(87,Tryz.f87),(155,Tryz.f155),(128,Tryz.f128),(117,Tryz.f117),(46,Tryz.f46),(116,Tryz.f116),(133,Tryz.f133),(26,Tryz.f26),(83,Tryz.f83)]
def avZ:List Nat:=[6,23,66,65,138,77,139,202,152,96,34,140,203,71,72,142,141,147,146,73,148,88,64,137,182,218,175,209,237,239,240,254,109,169,201,153,170,149,176,172,42,110,111,171,76,150,208,79,78,151,90,82,19,105,107,106,41,108,168,87,155,184,117,46,116,133,26,83,21,31,200,17]
def axS:List Nat:=[95,24,143,74,59,127,181,75,25,80,81,58,126,130,132,199,28]
def aw4:List (Nat × List Nat):=[(6,[2,2,11,3,14,13,5,19,18,7,26,27,28,2,31,33,2,38,2]),(23,[2,4,3,6,9,2,12,13,2]),(51,[2,0,8,2]),(67,[4,7,8,15,17,18,4,25,5,30,31,37,41,45,4,47,51,52,62,66,69,80,83,84,6,92,93,6,96,97,4]),(68,[4,6,4]),(70,[3,6,9]),(66,[2,2,3,16,2,21,2]),(65,[2,6,12,17,23,2]),(138,[2,3,5,6,2]),(77,[2,3,4,5,8,9,14,15,18,19,20,2,12,3,24,2]),(139,[2,5,4,7,14,2,11,4,19,2]),(95,[4,5,6,7,9,10,15,16,18,20,21,22,23,5,27,6,13,7,29,30,31,4]),(202,[2,3,4,5,8,9,14,15,2,12,3,19,22,23,2]),(152,[2,3,4,8,9,2,6,3,12,2]),(96,[2,3,5,6,9,10,12,13,17,18,20,21,2]),(34,[2,7,4,9,16,5,19,21,22,26,27,28,2,6,34,35,40,41,45,46,47,51,52,53,56,57,58,2,38,6,13,4,63,2]),(140,[2,3,2,6,8,2,9,2]),(203,[2,3,4,5,6,11,12,15,16,17,21,3,25,26,27,28,3,9,4,32,2]),(69,[6,8,11,12,16,6,17,18,7,21,22,24,28,29,30,6]),(24,[3,9,3,13,0,15,4,17,19,3,24,25,23,6,31,32,30,7,8,38,40,41,3,45,3]),(71,[2,4,6,8,3,9,10,13,14,15,2,6,20,2]),(72,[4,7,9,10,13,4,14,17,18,22,23,26,4,30,29,6,34,35,4,38,39,41,4]),(142,[4,5,8,9,10,14,17,18,0,22,4]),(141,[4,5,8,9,11,14,0,16,4]),(73,[4,5,9,10,15,16,18,21,22,20,6,7,8,28,4,30,31,5,35,34,37,4,13,5,4]),(148,[2,3,4,5,6,8,9,15,16,14,21,2,3,4,24,25,23,28,6,30,31,2,3,4,34,35,36,5,12,6,2,3,4]),(74,[5,8,6,10,5,13,14,15,17,18,5,5]),(88,[2,6,10,12,4,5,15,17,18,22,10,2]),(64,[2,6,12,17,2]),(137,[2,3,6,7,2]),(59,[4,5,6,4,2000007,6000007]),(127,[8,12,8,14,16,17,8,19,21,22,3,25,26,3,30,32,3,10,34,35,37,38,11,40,43,44,45,46,50,51,52,0,56,10,59,60,63,8]),(182,[4,7,10,4,13,16,17,4,5,20,21,6,23,25,4,26,5,28,29,30,0]),(218,[2,3,7,2,9,2]),(175,[4,5,6,4]),(209,[4,14,5,17,19,20,21,16,4,25,24,27,28,4,32,33,31,4,37,40,41,36,45,46,4,48,6,50,7,8,52,54,9,10,57,58,60,61,63,65,66,68,70,11,72,4,74,75,8,78,79,82,84,85,86,87,88,91,94,4,95,8,97,10,99,102,103,104,108,109,111,12,113,115,116,4,4,118,121,122,123,128,129,130,133,134,136,13,138,4,140,141,4,4]),(237,[4,5,6,4]),(239,[2,3,2]),(240,[4,12,11,5,6,16,7,8,9,18,19,23,25,26,8,21,9,30,31,33,34,35,37,4,40,10,41,42,45,8,47,48,49,8,53,54,55,56,57,8,63,10,65,66,68,69,70,71,73,75,78,79,4,4]),(254,[2,3,4,5,9,10,15,17,18,4,13,5,6,7,22,8,24,28,31,32,6,34,35,7,26,8,37,38,2,3]),(109,[4,6,4]),(169,[4,8,10,5,11,13,17,4,8,4]),(201,[2,3,2]),(153,[2,3,6,7,11,12,2]),(170,[4,6,8,10,5,11,12,13,4,8,4]),(149,[2,3,5,6,9,10,13,14,16,17,21,22,25,26,29,30,33,34,37,38,41,42,45,46,48,49,53,54,56,57,2]),(176,[2,3,5,6,9,10,12,13,2]),(172,[2,3,5,6,2]),(42,[2,3,6,7,2]),(110,[2,3,2]),(111,[2,3,5,6,10,11,12,18,19,2]),(171,[2,3,5,6,9,10,13,14,2]),(75,[2,3,11,2,3,4,5,6,15,16,44,45,43,48,5,6,51,50,2,3,54,55,53,59,60,58,7,8,9,66,2,3,68,69,72,73,4,5,6,19,10,20,21,24,25,26,30,10,32,33,2,3,35,36,37,38,42,4,5,6,75,2,3]),(76,[4,5,6,7,4,5]),(150,[4,5,6,7,10,4,5,11,12,14,4,5]),(208,[4,5,7,10,11,12,14,18,4]),(25,[3,13,3,18,17,4,5,6,24,27,26,8,31,3,3,35,37,38,39,3,47,46,10,52,53,51,12,63,65,66,69,3,3]),(79,[2,3,6,7,11,0,13,16,17,18,24,25,0,29,2]),(78,[4,5,6,7,10,11,14,15,19,20,18,8,9,24,26,4,5,6,27,7,28,29,31,33,34,36,37,4,5,6,40,7,42,4,5,6]),(151,[4,5,6,8,7,10,11,16,17,20,21,4,5,23,24,27,7,29,30,4,5,33,34,35,36,6,14,7,4,5]),(80,[3,9,8,4,5,6,14,15,19,20,3]),(90,[2,5,4,7,14,18,20,26,28,11,4,2]),(81,[2,3,4,5,9,10,13,14,17,5,19,6,7,20,21,25,26,24,7,5,30,2,3,33,34,37,38,39,43,5,45,46,47,7,49,50,52,53,54,57,58,59,2,3,65,66,4,69,2,3]),(82,[2,3,4,5,11,13,3,15,17,3,9,4,21,2]),(19,[2,7,2,4,11,14,16,5,6,19,21,23,24,28,2,30,31,4,14,35,2]),(58,[3,2]),(126,[5,10,13,14,5,19,20,6,23,5,26,28,7,8,30,32,35,37,42,43,51,7,70,5,5]),(105,[6,7,8,10,11,12,6]),(107,[2,3,2]),(106,[4,5,7,8,4,11,12,12,12,12,12,12,12,4,20,20,20,20,4,25,27,30,31,35,36,4,4,4]),(41,[2,11,16,21,26,31,2]),(108,[2,2]),(168,[6,10,7,8,12,13,9,17,19,20,21,23,24,25,31,32,33,7,29,9,15,8,36,6]),(60,[4,15,14,5,6,7,20,22,23,4,25,26,28,29,4,31,34,38,33,40,8,9,42,4,44,45,4,48,50,51,4,53,56,55,11,60,4,62,4,70,71,69,12,13,75,4,77,4]),(87,[4,5,6,7,8,4,5,6]),(155,[4,5,6,8,9,7,11,13,14,16,17,18,4,5,6,22,4,5,6]),(128,[4,5,6,8,4,10,12,16,18,21,23,4,25,27,4,35,37,4,4,4]),(117,[4,5,6,8,9,12,14,18,5,20,0,22,1,24,4]),(46,[2,2,3,4,10,12,3,4,48,50,54,2]),(116,[2,2,2]),(133,[4,5,17,18,21,20,7,27,4,5,28,31,30,9,10,37,38,39,40,42,4,5,48,51,50,12,57,4,5,58,61,60,13,14,66,65,15,16,70,71,72,73,4,5,4,5]),(26,[2,3,2,7,2,2]),(83,[2,6,5,2,10,9,12,2,3,14,16,18,4,19,20,23,24,25,29,3,32,33,34,3,16,39,2])]
def mvB:List (Nat × List Nat):=[(6,[0]),(23,[0]),(51,[0])]
def aqH:List (Nat × Nat):=[(219,1),(253,0),(238,2)]
noncomputable def aq4:List (Nat × (List Value->Heap->Option (Value × Heap))):=[(54,ain)]
noncomputable def ara:List (Nat × (List V->VH->Option (V × VH))):=[(54,akU)]
noncomputable def base:aa3 where
 ng:=1
 tab:=awy
 fn:=Go.AM.look fnB
 E9:=axU ax6
 kind:=aqB avZ axS aqH
 ext:=aon
 W8:=fun f=>Go.AM.look aq4 f
def aqn:List (List UInt8):=[[74,97,110],[70,101,98],[77,97,114],[65,112,114],[77,97,121],[74,117,110],[74,117,108],[65,117,103],[83,101,112],[79,99,116],[78,111,118],[68,101,99]]
def C5:Nat->Option (List V):=alb 0 aqn
noncomputable def vb:S9 where
 b:=base
 F2:=C5
 A7:=asN aw4
 mv:=asN mvB
 W8:=fun f=>Go.AM.look ara f
noncomputable def cv:y3:=K3 vb
noncomputable def pc:FuncId->List V->Option V:=Z9 cv
noncomputable def qc:FuncId->List V->Option V:=T5 cv
noncomputable def pcg:FuncId->VH->List V->Option (V × VH):=abS cv
set_option maxRecDepth 100000 in
theorem fns:aro Tryz.prog fnB:=by
 unfold fnB
 refine ⟨⟨rfl,by kernel_rfl⟩,⟨rfl,by kernel_rfl⟩,⟨rfl,by kernel_rfl⟩,⟨rfl,by kernel_rfl⟩,⟨rfl,by kernel_rfl⟩,⟨rfl,by kernel_rfl⟩,⟨rfl,by kernel_rfl⟩,⟨rfl,by kernel_rfl⟩,⟨rfl,by kernel_rfl⟩,⟨rfl,by kernel_rfl⟩,⟨rfl,by kernel_rfl⟩,⟨rfl,by kernel_rfl⟩,⟨rfl,by kernel_rfl⟩,⟨rfl,by kernel_rfl⟩,⟨rfl,by kernel_rfl⟩,⟨rfl,by kernel_rfl⟩,⟨rfl,by kernel_rfl⟩,⟨rfl,by kernel_rfl⟩,⟨rfl,by kernel_rfl⟩,⟨rfl,by kernel_rfl⟩,⟨rfl,by kernel_rfl⟩,⟨rfl,by kernel_rfl⟩,⟨rfl,by kernel_rfl⟩,⟨rfl,by kernel_rfl⟩,⟨rfl,by kernel_rfl⟩,⟨rfl,by kernel_rfl⟩,⟨rfl,by kernel_rfl⟩,⟨rfl,by kernel_rfl⟩,⟨rfl,by kernel_rfl⟩,⟨rfl,by kernel_rfl⟩,⟨rfl,by kernel_rfl⟩,⟨rfl,by kernel_rfl⟩,⟨rfl,by kernel_rfl⟩,⟨rfl,by kernel_rfl⟩,⟨rfl,by kernel_rfl⟩,⟨rfl,by kernel_rfl⟩,⟨rfl,by kernel_rfl⟩,⟨rfl,by kernel_rfl⟩,⟨rfl,by kernel_rfl⟩,⟨rfl,by kernel_rfl⟩,⟨rfl,by kernel_rfl⟩,⟨rfl,by kernel_rfl⟩,⟨rfl,by kernel_rfl⟩,⟨rfl,by kernel_rfl⟩,⟨rfl,by kernel_rfl⟩,⟨rfl,by kernel_rfl⟩,⟨rfl,by kernel_rfl⟩,⟨rfl,by kernel_rfl⟩,⟨rfl,by kernel_rfl⟩,⟨rfl,by kernel_rfl⟩,⟨rfl,by kernel_rfl⟩,⟨rfl,by kernel_rfl⟩,⟨rfl,by kernel_rfl⟩,⟨rfl,by kernel_rfl⟩,⟨rfl,by kernel_rfl⟩,⟨rfl,by kernel_rfl⟩,⟨rfl,by kernel_rfl⟩,⟨rfl,by kernel_rfl⟩,⟨rfl,by kernel_rfl⟩,⟨rfl,by kernel_rfl⟩,⟨rfl,by kernel_rfl⟩,⟨rfl,by kernel_rfl⟩,⟨rfl,by kernel_rfl⟩,⟨rfl,by kernel_rfl⟩,⟨rfl,by kernel_rfl⟩,⟨rfl,by kernel_rfl⟩,⟨rfl,by kernel_rfl⟩,⟨rfl,by kernel_rfl⟩,⟨rfl,by kernel_rfl⟩,⟨rfl,by kernel_rfl⟩,⟨rfl,by kernel_rfl⟩,⟨rfl,by kernel_rfl⟩,⟨rfl,by kernel_rfl⟩,⟨rfl,by kernel_rfl⟩,⟨rfl,by kernel_rfl⟩,⟨rfl,by kernel_rfl⟩,⟨rfl,by kernel_rfl⟩,⟨rfl,by kernel_rfl⟩,⟨rfl,by kernel_rfl⟩,⟨rfl,by kernel_rfl⟩,⟨rfl,by kernel_rfl⟩,⟨rfl,by kernel_rfl⟩,⟨rfl,by kernel_rfl⟩,trivial⟩
theorem aua:amZ Tryz.prog awy=true:=by kernel_rfl
theorem exts:ah6 Tryz.prog aqH:=by
 unfold aqH
 exact ⟨fun args w=>Go.run_callFunc_extern (fn:=Tryz.f219) (e:=Extern.BytealgCount.count) (by kernel_rfl) (by kernel_rfl) (by kernel_rfl) (by kernel_rfl) (by kernel_rfl) args w,fun args w=>Go.run_callFunc_extern (fn:=Tryz.f253) (e:=Extern.BytealgIndexByte.indexByte) (by kernel_rfl) (by kernel_rfl) (by kernel_rfl) (by kernel_rfl) (by kernel_rfl) args w,trivial,trivial⟩
def Tryz.afc:Go.Shelf.Ren:=⟨fun | 156=>54 | 165=>122 | 166=>123 | 169=>124 | 240=>178 | 241=>179 | 276=>216 | 277=>217 | n=>n,fun | 31=>22 | 9=>9 | 3=>3 | 4=>4 | 0=>0 | 20=>20 | 72=>124 | 76=>128 | 70=>122 | 37=>37 | 75=>127 | 127=>158 | 164=>187 | 5=>5 | 80=>130 | n=>n,fun | n=>n⟩
theorem Tryz.avA:Go.Proofs.Lays.n156 Tryz.prog Tryz.afc:={
 mixed:=by kernel_rfl
 f156:=Tryz.func54.trans (congrArg some (by kernel_rfl))
 f165:=Tryz.func122.trans (congrArg some (by kernel_rfl))
 f166:=Tryz.func123.trans (congrArg some (by kernel_rfl))
 f169:=Tryz.func124.trans (congrArg some (by kernel_rfl))
 f240:=Tryz.func178.trans (congrArg some (by kernel_rfl))
 f241:=Tryz.func179.trans (congrArg some (by kernel_rfl))
 f276:=Tryz.func216.trans (congrArg some (by kernel_rfl))
 f277:=Tryz.func217.trans (congrArg some (by kernel_rfl))
 t0:=Tryz.underlying0
 a0:=Tryz.isAgg0
 z0:=Tryz.sizeOf0
 v0:=Tryz.zeroValue0
 t3:=Tryz.underlying3
 a3:=Tryz.isAgg3
 z3:=Tryz.sizeOf3
 v3:=Tryz.zeroValue3
 t4:=Tryz.underlying4
 a4:=Tryz.isAgg4
 z4:=Tryz.sizeOf4
 v4:=Tryz.zeroValue4
 t9:=Tryz.underlying9
 a9:=Tryz.isAgg9
 z9:=Tryz.sizeOf9
 v9:=Tryz.zeroValue9
 t20:=Tryz.underlying20
 a20:=Tryz.isAgg20
 z20:=Tryz.sizeOf20
 v20:=Tryz.zeroValue20
 t31:=Tryz.underlying22
 a31:=Tryz.isAgg22
 z31:=Tryz.sizeOf22
 v31:=Tryz.zeroValue22
 t37:=Tryz.underlying37
 a37:=Tryz.isAgg37
 z37:=Tryz.sizeOf37
 v37:=Tryz.zeroValue37
 t70:=Tryz.underlying122
 a70:=Tryz.isAgg122
 z70:=Tryz.sizeOf122
 v70:=Tryz.zeroValue122
 t72:=Tryz.underlying124
 a72:=Tryz.isAgg124
 z72:=Tryz.sizeOf124
 v72:=Tryz.zeroValue124
 t75:=Tryz.underlying127
 a75:=Tryz.isAgg127
 z75:=Tryz.sizeOf127
 v75:=Tryz.zeroValue127
 t76:=Tryz.underlying128
 a76:=Tryz.isAgg128
 z76:=Tryz.sizeOf128
 v76:=Tryz.zeroValue128
 t127:=Tryz.underlying158
 a127:=Tryz.isAgg158
 z127:=Tryz.sizeOf158
 v127:=Tryz.zeroValue158
 t164:=Tryz.underlying187
 a164:=Tryz.isAgg187
 z164:=Tryz.sizeOf187
 v164:=Tryz.zeroValue187 }
theorem Tryz.aix:Builder.Extra Tryz.prog Tryz.afc:={
 sizeBuilder:=by kernel_rfl
 liesBuilder:=by kernel_rfl
 t5:=Tryz.underlying5
 a5:=Tryz.isAgg5
 z5:=Tryz.sizeOf5
 v5:=Tryz.zeroValue5
 infoByte:=by kernel_rfl
 cellsByte:=by kernel_rfl
 sizeByte:=by kernel_rfl
 neB5:=by decide }
theorem axT:auQ Tryz.prog Tryz.afc:=⟨Tryz.avA,Tryz.aix⟩
theorem asd:alJ Tryz.prog 1 aq4:=⟨fun args hp r hp' h=>ar7 1 axT h,trivial⟩
theorem avz:aft Tryz.prog base where
 tab:=akx aua
 fn:=asX fns
 ext:=axF exts
 W8:=aok (P:=Tryz.prog) (ng:=1) asd
 mixed:=by kernel_rfl
theorem asH:ajY vb ara:=⟨fun args H r H' h=>as2 (b:=base) rfl h,trivial⟩
theorem axO:aiu vb where
 zero:=auf (akx aua)
 sl:=awQ (akx aua)
 gd:=fun g cs h=>by exact aqx h
 pos:=apK (by kernel_rfl)
 asM:=fun f h=>amq (f:=f) (l:=ara) (l':=aq4) rfl h
 W8:=amm asH
end Go.Proofs.YtpbgpeojlfdpoaaGreatDoor.Q
