/- The program's functions, types and marks, as the machines take them. -/
import Derived.Test.YtmokcpfbeggigaaGreatDoorProg
import Derived.Test.YtmokcpfbeggigaaGreatDoorFnScriptListK4
import Derived.KernelRfl
namespace Go.Proofs.YtmokcpfbeggigaaGreatDoor.Q
open Go Go.AM Go.Proofs Go.Shelf
set_option linter.unusedVariables false
def Z7:Nat:=4
def V8:Nat:=10
def aaA:Nat:=19
def acH:Nat:=29
def ac1:Nat:=72
def W4:Nat:=56
def I3:Nat:=36
def acZ:Nat:=136
def E9:Nat:=37
def acp:Nat:=73
def P6:Nat:=11
def B7:Nat:=30
def C6:Nat:=74
def E6:Nat:=31
def M4:Nat:=32
def I8:Nat:=41
def acm:Nat:=75
def O5:Nat:=27
def T9:Nat:=64
def aif:Nat:=111
def abR:Nat:=112
def abD:Nat:=158
def abN:Nat:=99
def H7:Nat:=146
def J8:Nat:=180
def C5:Nat:=137
def I4:Nat:=127
def W6:Nat:=138
def W3:Nat:=139
def Z5:Nat:=174
def P4:Nat:=93
def abP:Nat:=100
def U8:Nat:=101
def abQ:Nat:=76
def V2:Nat:=140
def ab3:Nat:=141
def W2:Nat:=179
def Q5:Nat:=33
def W5:Nat:=77
def aaw:Nat:=22
def K9:Nat:=12
def S0:Nat:=34
def acY:Nat:=78
def X1:Nat:=48
def ab6:Nat:=79
def L9:Nat:=142
def W7:Nat:=143
def acJ:Nat:=97
def aac:Nat:=105
def abT:Nat:=80
def Y2:Nat:=35
def abk:Nat:=81
def aas:Nat:=144
def G0:Nat:=9
def acq:Nat:=26
def aa2:Nat:=63
def G6:Nat:=107
def aaZ:Nat:=108
def S6:Nat:=109
def X2:Nat:=110
def Y9:Nat:=157
def U9:Nat:=175
def V9:Nat:=28
def acO:Nat:=43
def P5:Nat:=84
def afK:Nat:=65
def ag6:Nat:=66
def alW:Nat:=67
def ajd:Nat:=68
def ajb:Nat:=69
def ahR:Nat:=70
def K5:Nat:=71
def M5:Nat:=133
def aaz:Nat:=44
def I2:Nat:=86
def I7:Nat:=85
def aeV:Nat:=87
def ad4:Nat:=89
def aeO:Nat:=88
def adz:Nat:=91
def adN:Nat:=90
def J1:Nat:=83
def Y1:Nat:=92
def S7:Nat:=176
def W0:Nat:=45
def U6:Nat:=46
def Z4:Nat:=177
def J7:Nat:=201
def J4:Nat:=219
def W1:Nat:=134
def L8:Nat:=42
def aiV:Nat:=14
def ah4:Nat:=17
def ahN:Nat:=135
def ahz:Nat:=7
noncomputable def axr:List (Nat × TI):=[
 (22,⟨.slice 5 1 1 [(.int .u8 0)],false,1,[(.slice none 0 0)]⟩),
 (3,⟨.int .i64,false,1,[(.int .i64 0)]⟩),
 (28,⟨.slice 59 3 48 [(.string (bs [])),(.string (bs [])),(.string (bs []))],false,1,[(.slice none 0 0)]⟩),
 (9,⟨.str,false,1,[(.string (bs []))]⟩),
 (39,⟨.other,false,1,[(.pointer none)]⟩),
 (80,⟨.struct [(0,1,false),(1,1,false)],true,2,[(.slice none 0 0),(.int .i64 0)]⟩),
 (59,⟨.struct [(0,1,false),(1,1,false),(2,1,false)],true,3,[(.string (bs [])),(.string (bs [])),(.string (bs []))]⟩),
 (78,⟨.slice 3 1 8 [(.int .i64 0)],false,1,[(.slice none 0 0)]⟩),
 (5,⟨.int .u8,false,1,[(.int .u8 0)]⟩),
 (42,⟨.slice 9 1 16 [(.string (bs []))],false,1,[(.slice none 0 0)]⟩),
 (60,⟨.other,false,1,[.nilFunc]⟩),
 (41,⟨.other,false,1,[.nilFunc]⟩),
 (192,⟨.int .u32,false,1,[(.int .u32 0)]⟩),
 (114,⟨.other,false,1,[.nilFunc]⟩),
 (53,⟨.struct [(0,1,false),(1,6,true),(7,7,true)],true,14,[(.slice none 0 0),(.int .i64 0),(.string (bs [])),(.string (bs [])),(.slice none 0 0),(.slice none 0 0),(.slice none 0 0),(.int .i64 0),(.int .i64 0),(.int .i64 0),(.int .i64 0),(.int .i64 0),(.int .i64 0),(.int .i64 0)]⟩),
 (51,⟨.struct [(0,1,false),(1,1,false),(2,1,false),(3,1,false),(4,1,false),(5,1,false),(6,1,false)],true,7,[(.int .i64 0),(.int .i64 0),(.int .i64 0),(.int .i64 0),(.int .i64 0),(.int .i64 0),(.int .i64 0)]⟩),
 (95,⟨.other,false,1,[(.pointer none)]⟩),
 (44,⟨.slice 134 2 40 [(.string (bs [])),(.slice none 0 0)],false,1,[(.slice none 0 0)]⟩),
 (49,⟨.struct [(0,1,false),(1,1,false),(2,3,true),(5,1,false)],true,6,[(.int .i64 0),(.string (bs [])),(.string (bs [])),(.slice none 0 0),(.slice none 0 0),(.slice none 0 0)]⟩),
 (47,⟨.slice 46 3 64 [(.string (bs [])),(.slice none 0 0),(.slice none 0 0)],false,1,[(.slice none 0 0)]⟩),
 (141,⟨.arr 12 1,true,12,[(.string (bs [])),(.string (bs [])),(.string (bs [])),(.string (bs [])),(.string (bs [])),(.string (bs [])),(.string (bs [])),(.string (bs [])),(.string (bs [])),(.string (bs [])),(.string (bs [])),(.string (bs []))]⟩),
 (178,⟨.arr 7 1,true,7,[(.string (bs [])),(.string (bs [])),(.string (bs [])),(.string (bs [])),(.string (bs [])),(.string (bs [])),(.string (bs []))]⟩),
 (33,⟨.struct [(0,1,false),(1,1,false),(2,1,false)],true,3,[(.string (bs [])),(.string (bs [])),(.slice none 0 0)]⟩),
 (107,⟨.arr 256 1,true,256,[(.bool false),(.bool false),(.bool false),(.bool false),(.bool false),(.bool false),(.bool false),(.bool false),(.bool false),(.bool false),(.bool false),(.bool false),(.bool false),(.bool false),(.bool false),(.bool false),(.bool false),(.bool false),(.bool false),(.bool false),(.bool false),(.bool false),(.bool false),(.bool false),(.bool false),(.bool false),(.bool false),(.bool false),(.bool false),(.bool false),(.bool false),(.bool false),(.bool false),(.bool false),(.bool false),(.bool false),(.bool false),(.bool false),(.bool false),(.bool false),(.bool false),(.bool false),(.bool false),(.bool false),(.bool false),(.bool false),(.bool false),(.bool false),(.bool false),(.bool false),(.bool false),(.bool false),(.bool false),(.bool false),(.bool false),(.bool false),(.bool false),(.bool false),(.bool false),(.bool false),(.bool false),(.bool false),(.bool false),(.bool false),(.bool false),(.bool false),(.bool false),(.bool false),(.bool false),(.bool false),(.bool false),(.bool false),(.bool false),(.bool false),(.bool false),(.bool false),(.bool false),(.bool false),(.bool false),(.bool false),(.bool false),(.bool false),(.bool false),(.bool false),(.bool false),(.bool false),(.bool false),(.bool false),(.bool false),(.bool false),(.bool false),(.bool false),(.bool false),(.bool false),(.bool false),(.bool false),(.bool false),(.bool false),(.bool false),(.bool false),(.bool false),(.bool false),(.bool false),(.bool false),(.bool false),(.bool false),(.bool false),(.bool false),(.bool false),(.bool false),(.bool false),(.bool false),(.bool false),(.bool false),(.bool false),(.bool false),(.bool false),(.bool false),(.bool false),(.bool false),(.bool false),(.bool false),(.bool false),(.bool false),(.bool false),(.bool false),(.bool false),(.bool false),(.bool false),(.bool false),(.bool false),(.bool false),(.bool false),(.bool false),(.bool false),(.bool false),(.bool false),(.bool false),(.bool false),(.bool false),(.bool false),(.bool false),(.bool false),(.bool false),(.bool false),(.bool false),(.bool false),(.bool false),(.bool false),(.bool false),(.bool false),(.bool false),(.bool false),(.bool false),(.bool false),(.bool false),(.bool false),(.bool false),(.bool false),(.bool false),(.bool false),(.bool false),(.bool false),(.bool false),(.bool false),(.bool false),(.bool false),(.bool false),(.bool false),(.bool false),(.bool false),(.bool false),(.bool false),(.bool false),(.bool false),(.bool false),(.bool false),(.bool false),(.bool false),(.bool false),(.bool false),(.bool false),(.bool false),(.bool false),(.bool false),(.bool false),(.bool false),(.bool false),(.bool false),(.bool false),(.bool false),(.bool false),(.bool false),(.bool false),(.bool false),(.bool false),(.bool false),(.bool false),(.bool false),(.bool false),(.bool false),(.bool false),(.bool false),(.bool false),(.bool false),(.bool false),(.bool false),(.bool false),(.bool false),(.bool false),(.bool false),(.bool false),(.bool false),(.bool false),(.bool false),(.bool false),(.bool false),(.bool false),(.bool false),(.bool false),(.bool false),(.bool false),(.bool false),(.bool false),(.bool false),(.bool false),(.bool false),(.bool false),(.bool false),(.bool false),(.bool false),(.bool false),(.bool false),(.bool false),(.bool false),(.bool false),(.bool false),(.bool false),(.bool false),(.bool false),(.bool false),(.bool false),(.bool false),(.bool false),(.bool false),(.bool false),(.bool false),(.bool false),(.bool false),(.bool false),(.bool false),(.bool false),(.bool false),(.bool false),(.bool false),(.bool false)]⟩),
 (111,⟨.other,false,1,[(.pointer none)]⟩),
 (134,⟨.struct [(0,1,false),(1,1,false)],true,2,[(.string (bs [])),(.slice none 0 0)]⟩),
 (46,⟨.struct [(0,1,false),(1,1,false),(2,1,false)],true,3,[(.string (bs [])),(.slice none 0 0),(.slice none 0 0)]⟩)]
noncomputable def azc:List (Nat × S5):=[
 (4,{ loc:=[],loops:=[],n9:=[(5,7,[(.ret,⟨[2],[],[]⟩),(.normal,⟨[4],[],[]⟩)])],full:=[],p6:=false }),
 (10,{ loc:=[],loops:=[],n9:=[],full:=[],p6:=false }),
 (19,{ loc:=[],loops:=[],n9:=[(1,3,[(.normal,⟨[0],[],[]⟩)])],full:=[],p6:=false }),
 (29,{ loc:=[],loops:=[],n9:=[],full:=[],p6:=false }),
 (72,{ loc:=[],loops:=[(3,⟨⟨[0,3,4],[],[]⟩,[(.exit 0,⟨[3],[],[]⟩)]⟩)],n9:=[],full:=[],p6:=false }),
 (56,{ loc:=[],loops:=[],n9:=[],full:=[],p6:=false }),
 (36,{ loc:=[],loops:=[],n9:=[(2,4,[(.ret,⟨[4],[],[]⟩),(.normal,⟨[0,1],[],[]⟩)])],full:=[],p6:=false }),
 (136,{ loc:=[2],loops:=[],n9:=[],full:=[],p6:=false }),
 (37,{ loc:=[],loops:=[],n9:=[],full:=[],p6:=false }),
 (73,{ loc:=[3,4],loops:=[],n9:=[],full:=[],p6:=false }),
 (11,{ loc:=[5],loops:=[(5,⟨⟨[3,15,16,17],[],[]⟩,[(.exit 0,⟨[3],[],[]⟩)]⟩)],n9:=[(1,3,[(.ret,⟨[2],[],[]⟩),(.normal,⟨[0],[],[]⟩)])],full:=[],p6:=false }),
 (30,{ loc:=[],loops:=[],n9:=[],full:=[],p6:=false }),
 (74,{ loc:=[],loops:=[(2,⟨⟨[0,1,7,8],[],[]⟩,[(.exit 0,⟨[],[],[]⟩),(.ret,⟨[4],[],[]⟩)]⟩)],n9:=[],full:=[],p6:=true }),
 (31,{ loc:=[1],loops:=[],n9:=[],full:=[],p6:=false }),
 (32,{ loc:=[1],loops:=[],n9:=[],full:=[],p6:=false }),
 (41,{ loc:=[],loops:=[(2,⟨⟨[0,5,6],[],[]⟩,[(.exit 0,⟨[0],[],[]⟩),(.ret,⟨[2],[],[]⟩)]⟩)],n9:=[],full:=[],p6:=false }),
 (75,{ loc:=[],loops:=[],n9:=[],full:=[],p6:=false }),
 (27,{ loc:=[],loops:=[],n9:=[],full:=[],p6:=false }),
 (64,{ loc:=[],loops:=[(11,⟨⟨[0,1,2,3,9,10],[],[]⟩,[(.exit 0,⟨[0,9,10],[],[]⟩)]⟩)],n9:=[(5,7,[(.normal,⟨[0,1,2,3],[],[]⟩)])],full:=[],p6:=false }),
 (112,{ loc:=[],loops:=[(6,⟨⟨[0,1,5],[],[]⟩,[(.ret,⟨[4],[],[]⟩)]⟩)],n9:=[],full:=[],p6:=false }),
 (158,{ loc:=[],loops:=[],n9:=[],full:=[],p6:=false }),
 (99,{ loc:=[],loops:=[],n9:=[],full:=[],p6:=false }),
 (146,{ loc:=[],loops:=[(15,⟨⟨[0,1,5,6,7,8,9,10],[],[]⟩,[(.exit 1,⟨[],[],[]⟩),(.ret,⟨[4],[],[]⟩)]⟩)],n9:=[(21,23,[(.ret,⟨[4],[],[]⟩),(.normal,⟨[0,1,5,6,7,8,9,10],[],[]⟩)]),(16,21,[(.ret,⟨[4],[],[]⟩),(.normal,⟨[0,1,5,6,7,8,9,10],[],[]⟩)]),(2,10,[(.ret,⟨[4],[],[]⟩),(.normal,⟨[0,1,5],[],[]⟩)])],full:=[],p6:=false }),
 (180,{ loc:=[],loops:=[],n9:=[],full:=[],p6:=false }),
 (182,{ loc:=[],loops:=[],n9:=[],full:=[],p6:=false }),
 (183,{ loc:=[],loops:=[(11,⟨⟨[0,1,5,6,7,8,10],[],[]⟩,[(.exit 2,⟨[],[],[]⟩),(.ret,⟨[4],[],[]⟩)]⟩),(5,⟨⟨[0,1,5,6,7,8,9],[],[]⟩,[(.exit 0,⟨[0,1,5,6,7,8],[],[]⟩)]⟩)],n9:=[(8,10,[(.ret,⟨[4],[],[]⟩),(.normal,⟨[0,1,5,6,7,8],[],[]⟩)])],full:=[],p6:=false }),
 (205,{ loc:=[],loops:=[(8,⟨⟨[4,6,7,8],[],[]⟩,[(.exit 2,⟨[4,6],[],[]⟩)]⟩),(3,⟨⟨[0,4,5],[],[]⟩,[(.exit 0,⟨[0,4],[],[]⟩)]⟩)],n9:=[(10,9,[(.normal,⟨[4,6,7,8],[],[]⟩)]),(10,12,[(.normal,⟨[4,6,7,8],[],[]⟩)])],full:=[],p6:=false }),
 (137,{ loc:=[],loops:=[],n9:=[],full:=[],p6:=false }),
 (127,{ loc:=[],loops:=[(2,⟨⟨[0,1,7,8],[],[]⟩,[(.exit 0,⟨[],[],[]⟩),(.ret,⟨[4],[],[]⟩)]⟩)],n9:=[],full:=[],p6:=true }),
 (138,{ loc:=[],loops:=[],n9:=[],full:=[],p6:=false }),
 (139,{ loc:=[],loops:=[],n9:=[],full:=[],p6:=false }),
 (174,{ loc:=[],loops:=[(2,⟨⟨[0,1,7,8],[],[]⟩,[(.exit 0,⟨[],[],[]⟩),(.ret,⟨[4],[],[]⟩)]⟩)],n9:=[],full:=[],p6:=true }),
 (93,{ loc:=[],loops:=[],n9:=[],full:=[],p6:=false }),
 (100,{ loc:=[],loops:=[],n9:=[],full:=[],p6:=false }),
 (101,{ loc:=[],loops:=[],n9:=[],full:=[],p6:=false }),
 (76,{ loc:=[],loops:=[],n9:=[],full:=[],p6:=false }),
 (140,{ loc:=[],loops:=[],n9:=[],full:=[],p6:=false }),
 (141,{ loc:=[],loops:=[],n9:=[],full:=[],p6:=false }),
 (179,{ loc:=[],loops:=[],n9:=[],full:=[],p6:=false }),
 (33,{ loc:=[1],loops:=[],n9:=[],full:=[],p6:=false }),
 (77,{ loc:=[],loops:=[(7,⟨⟨[0,3,15,16],[],[]⟩,[(.exit 1,⟨[3],[],[]⟩)]⟩)],n9:=[(9,11,[(.normal,⟨[0,3,4,15,16],[],[]⟩)])],full:=[],p6:=false }),
 (12,{ loc:=[],loops:=[(3,⟨⟨[0,3,4],[],[]⟩,[(.exit 0,⟨[3],[],[]⟩),(.ret,⟨[2],[],[]⟩)]⟩)],n9:=[(5,4,[(.ret,⟨[2],[],[]⟩),(.normal,⟨[0,3,4],[],[]⟩)]),(7,9,[(.normal,⟨[0,3,4],[],[]⟩)]),(3,5,[(.normal,⟨[0,3,4],[],[]⟩),(.exit 0,⟨[3],[],[]⟩)])],full:=[],p6:=false }),
 (34,{ loc:=[1],loops:=[],n9:=[],full:=[],p6:=false }),
 (78,{ loc:=[],loops:=[],n9:=[],full:=[],p6:=false }),
 (48,{ loc:=[],loops:=[(2,⟨⟨[0,3],[],[]⟩,[(.exit 0,⟨[0],[],[]⟩),(.ret,⟨[2],[],[]⟩)]⟩)],n9:=[(4,3,[(.ret,⟨[2],[],[]⟩),(.normal,⟨[0,3],[],[]⟩)]),(2,4,[(.normal,⟨[0,3],[],[]⟩),(.exit 0,⟨[0],[],[]⟩)])],full:=[],p6:=false }),
 (79,{ loc:=[],loops:=[(3,⟨⟨[0,3,4],[],[]⟩,[(.exit 0,⟨[0],[],[]⟩),(.ret,⟨[2],[],[]⟩)]⟩)],n9:=[],full:=[],p6:=false }),
 (142,{ loc:=[],loops:=[(4,⟨⟨[0,1,5,6,7],[],[]⟩,[(.exit 0,⟨[0,5,6],[],[]⟩)]⟩)],n9:=[(6,5,[(.normal,⟨[0,1,5,6,7],[],[]⟩)])],full:=[],p6:=false }),
 (143,{ loc:=[],loops:=[(2,⟨⟨[0,3],[],[]⟩,[(.exit 0,⟨[0],[],[]⟩),(.ret,⟨[2],[],[]⟩)]⟩)],n9:=[(2,4,[(.normal,⟨[0,3],[],[]⟩),(.exit 0,⟨[0],[],[]⟩)])],full:=[],p6:=false }),
 (97,{ loc:=[],loops:=[(2,⟨⟨[0,3],[],[]⟩,[(.exit 0,⟨[0],[],[]⟩),(.ret,⟨[2],[],[]⟩)]⟩)],n9:=[],full:=[],p6:=false }),
 (105,{ loc:=[],loops:=[],n9:=[],full:=[],p6:=false }),
 (80,{ loc:=[],loops:=[(3,⟨⟨[0,3,4],[],[]⟩,[(.exit 0,⟨[0],[],[]⟩),(.ret,⟨[2],[],[]⟩)]⟩),(9,⟨⟨[0,3,4,5,6],[],[]⟩,[(.exit 2,⟨[0,3,4],[],[]⟩),(.ret,⟨[2],[],[]⟩)]⟩)],n9:=[(5,4,[(.ret,⟨[2],[],[]⟩),(.normal,⟨[0,3,4],[],[]⟩)]),(11,10,[(.ret,⟨[2],[],[]⟩),(.normal,⟨[0,3,4,5,6],[],[]⟩)]),(6,8,[(.ret,⟨[2],[],[]⟩),(.normal,⟨[0,3,4,5],[],[]⟩)])],full:=[],p6:=false }),
 (35,{ loc:=[1],loops:=[],n9:=[],full:=[],p6:=false }),
 (81,{ loc:=[],loops:=[],n9:=[],full:=[],p6:=false }),
 (144,{ loc:=[],loops:=[(3,⟨⟨[0,3,4],[],[]⟩,[(.exit 0,⟨[3],[],[]⟩)]⟩)],n9:=[(5,4,[(.normal,⟨[0,3,4],[],[]⟩)]),(5,7,[(.normal,⟨[0,3,4],[],[]⟩)])],full:=[],p6:=false }),
 (9,{ loc:=[],loops:=[(5,⟨⟨[3,4,12,13,14],[],[]⟩,[(.exit 0,⟨[4],[],[]⟩),(.ret,⟨[2],[],[]⟩)]⟩)],n9:=[(8,10,[(.ret,⟨[2],[],[]⟩),(.normal,⟨[3,4,6,12,13,14],[],[]⟩)])],full:=[],p6:=false }),
 (26,{ loc:=[0,1],loops:=[],n9:=[],full:=[],p6:=false }),
 (63,{ loc:=[4,9],loops:=[(8,⟨⟨[7],[(4,(4,0)),(9,(9,0))],[(4,7),(9,7)]⟩,[(.exit 0,⟨[7],[(4,(4,0)),(9,(9,0))],[(4,7),(9,7)]⟩)]⟩)],n9:=[(8,9,[(.normal,⟨[7],[(4,(4,0)),(9,(9,0))],[(4,7),(9,7)]⟩),(.exit 0,⟨[7],[(4,(4,0)),(9,(9,0))],[(4,7),(9,7)]⟩)]),(1,3,[(.ret,⟨[5],[(4,(4,0))],[(4,7)]⟩),(.normal,⟨[0,1],[(4,(4,0))],[(4,7)]⟩)])],full:=[],p6:=false }),
 (107,{ loc:=[],loops:=[],n9:=[],full:=[],p6:=false }),
 (108,{ loc:=[],loops:=[],n9:=[],full:=[],p6:=false }),
 (109,{ loc:=[],loops:=[],n9:=[(12,16,[(.normal,⟨[0,11,20],[],[]⟩)]),(4,11,[(.normal,⟨[0,11,12],[],[]⟩)]),(1,3,[(.ret,⟨[4],[],[]⟩),(.normal,⟨[0,1],[],[]⟩)])],full:=[],p6:=false }),
 (110,{ loc:=[1],loops:=[],n9:=[],full:=[],p6:=false }),
 (157,{ loc:=[1],loops:=[],n9:=[],full:=[],p6:=false }),
 (175,{ loc:=[],loops:=[(3,⟨⟨[0,1,7,8],[],[]⟩,[(.exit 0,⟨[7],[],[]⟩)]⟩),(6,⟨⟨[0,1,7,8,9],[],[]⟩,[(.exit 2,⟨[0,1,7,8],[],[]⟩)]⟩)],n9:=[(6,8,[(.normal,⟨[0,1,7,8,9],[],[]⟩),(.exit 2,⟨[0,1,7,8],[],[]⟩)])],full:=[],p6:=false }),
 (28,{ loc:=[10],loops:=[],n9:=[],full:=[],p6:=false }),
 (43,{ loc:=[],loops:=[],n9:=[],full:=[],p6:=false }),
 (84,{ loc:=[],loops:=[],n9:=[],full:=[],p6:=false }),
 (65,{ loc:=[],loops:=[],n9:=[],full:=[],p6:=false }),
 (114,{ loc:=[],loops:=[(2,⟨⟨[0,1,5],[],[]⟩,[(.exit 0,⟨[5],[],[]⟩)]⟩)],n9:=[(2,3,[(.normal,⟨[0,1,5],[],[]⟩),(.exit 0,⟨[5],[],[]⟩)])],full:=[],p6:=false }),
 (70,{ loc:=[1],loops:=[],n9:=[(4,6,[(.normal,⟨[3,4],[(1,(1,0))],[(1,7)]⟩)])],full:=[],p6:=false }),
 (132,{ loc:=[1],loops:=[],n9:=[],full:=[],p6:=false }),
 (71,{ loc:=[6,11],loops:=[],n9:=[],full:=[],p6:=false }),
 (133,{ loc:=[2],loops:=[],n9:=[(9,11,[(.ret,⟨[3],[(2,(2,0))],[(2,3)]⟩),(.normal,⟨[5,7],[(2,(2,0))],[(2,3)]⟩)])],full:=[],p6:=false }),
 (44,{ loc:=[],loops:=[],n9:=[(3,5,[(.ret,⟨[4],[],[]⟩),(.normal,⟨[0,1],[],[]⟩)]),(1,3,[(.ret,⟨[4],[],[]⟩),(.normal,⟨[0,1],[],[]⟩)])],full:=[],p6:=false }),
 (86,{ loc:=[],loops:=[(1,⟨⟨[0,1],[],[]⟩,[(.exit 0,⟨[0],[],[]⟩)]⟩)],n9:=[(1,2,[(.normal,⟨[0,1],[],[]⟩),(.exit 0,⟨[0],[],[]⟩)])],full:=[],p6:=false }),
 (85,{ loc:=[],loops:=[(1,⟨⟨[0,1],[],[]⟩,[(.exit 0,⟨[0],[],[]⟩)]⟩)],n9:=[(1,2,[(.normal,⟨[0,1],[],[]⟩),(.exit 0,⟨[0],[],[]⟩)])],full:=[],p6:=false }),
 (83,{ loc:=[],loops:=[(2,⟨⟨[0,1,5],[],[]⟩,[(.exit 0,⟨[],[],[]⟩),(.ret,⟨[4],[],[]⟩)]⟩)],n9:=[(4,3,[(.ret,⟨[4],[],[]⟩),(.normal,⟨[0,1,5],[],[]⟩)])],full:=[],p6:=false }),
 (92,{ loc:=[],loops:=[(3,⟨⟨[0,5,6],[],[]⟩,[(.exit 0,⟨[],[],[]⟩),(.ret,⟨[2,3,4],[],[]⟩)]⟩)],n9:=[(5,4,[(.ret,⟨[2,3,4],[],[]⟩),(.normal,⟨[0,5,6],[],[]⟩)]),(5,11,[(.ret,⟨[2,3,4],[],[]⟩),(.normal,⟨[0,5,6],[],[]⟩)])],full:=[],p6:=false }),
 (176,{ loc:=[4],loops:=[],n9:=[],full:=[],p6:=false }),
 (45,{ loc:=[],loops:=[(3,⟨⟨[3,8,9,10],[],[]⟩,[(.exit 0,⟨[3],[],[]⟩)]⟩)],n9:=[],full:=[],p6:=false }),
 (46,{ loc:=[],loops:=[(5,⟨⟨[0,4,5,6],[],[]⟩,[(.exit 0,⟨[4],[],[]⟩),(.ret,⟨[2,3],[],[]⟩)]⟩),(7,⟨⟨[0,4,5,10],[],[]⟩,[(.exit 3,⟨[0,4,5,10],[],[]⟩)]⟩)],n9:=[(7,8,[(.normal,⟨[0,4,5,10],[],[]⟩),(.exit 3,⟨[0,4,5,10],[],[]⟩)])],full:=[],p6:=false }),
 (177,{ loc:=[],loops:=[],n9:=[],full:=[],p6:=false }),
 (201,{ loc:=[],loops:=[],n9:=[],full:=[],p6:=false }),
 (219,{ loc:=[],loops:=[],n9:=[],full:=[],p6:=false }),
 (134,{ loc:=[7],loops:=[(7,⟨⟨[4,19,20,21],[],[]⟩,[(.exit 1,⟨[4],[],[]⟩),(.ret,⟨[2,3],[],[]⟩)]⟩)],n9:=[(10,12,[(.ret,⟨[2,3],[],[]⟩),(.normal,⟨[4,19,20,21],[(7,(7,0))],[(7,3)]⟩)])],full:=[],p6:=false }),
 (42,{ loc:=[],loops:=[(2,⟨⟨[0,1,5],[],[]⟩,[(.ret,⟨[4],[],[]⟩)]⟩)],n9:=[],full:=[],p6:=false })]
noncomputable def fnB:List (Nat × Func):=[
 (4,Tryz.f4),(10,Tryz.f10),(19,Tryz.f19),(29,Tryz.f29),(72,Tryz.f72),(56,Tryz.f56),(36,Tryz.f36),(136,Tryz.f136),(37,Tryz.f37),(73,Tryz.f73),(11,Tryz.f11),(30,Tryz.f30),(74,Tryz.f74),(31,Tryz.f31),(32,Tryz.f32),(41,Tryz.f41),(75,Tryz.f75),(27,Tryz.f27),(64,Tryz.f64),(112,Tryz.f112),(158,Tryz.f158),(99,Tryz.f99),(146,Tryz.f146),(180,Tryz.f180),(182,Tryz.f182),(183,Tryz.f183),(205,Tryz.f205),(137,Tryz.f137),(127,Tryz.f127),(138,Tryz.f138),(139,Tryz.f139),(174,Tryz.f174),(93,Tryz.f93),(100,Tryz.f100),(101,Tryz.f101),(76,Tryz.f76),(140,Tryz.f140),(141,Tryz.f141),(179,Tryz.f179),(33,Tryz.f33),(77,Tryz.f77),(12,Tryz.f12),(34,Tryz.f34),(78,Tryz.f78),(48,Tryz.f48),(79,Tryz.f79),(142,Tryz.f142),(143,Tryz.f143),(97,Tryz.f97),(105,Tryz.f105),(80,Tryz.f80),(35,Tryz.f35),(81,Tryz.f81),(144,Tryz.f144),(9,Tryz.f9),(26,Tryz.f26),(63,Tryz.f63),(107,Tryz.f107),(108,Tryz.f108),(109,Tryz.f109),(110,Tryz.f110),(157,Tryz.f157),(175,Tryz.f175),(28,Tryz.f28),(43,Tryz.f43),(84,Tryz.f84),(65,Tryz.f65),(114,Tryz.f114),(70,Tryz.f70),(132,Tryz.f132),(71,Tryz.f71),(133,Tryz.f133),(44,Tryz.f44),(86,Tryz.f86),(85,Tryz.f85),(83,Tryz.f83),(92,Tryz.f92),(176,Tryz.f176),(45,Tryz.f45),(46,Tryz.f46),(177,Tryz.f177),(201,Tryz.f201),(219,Tryz.f219),(134,Tryz.f134),(42,Tryz.f42)]
def ayn:List Nat:=[4,11,30,74,31,32,41,75,112,158,99,146,180,182,183,205,137,127,138,139,174,93,100,101,76,140,141,179,33,77,12,34,78,48,79,143,97,105,80,35,81,144,9,107,108,109,110,157,175,43,84,115,114,70,132,71,44,86,85,91,90,83,92,45,177,201,219,17,135,7]
def ay2:List Nat:=[27,64,111,142,26,63,67,69,133,87,176,46,134,42,14]
def awV:List (Nat × List Nat):=[(4,[2,2,8,4,12,16,17,20,2,24,28,2,2000009,2000011,2000014,2000022,2000027]),(10,[2,3,2]),(19,[2,0,8,2]),(29,[2,5,3,10,4,15,16,18,23,2]),(72,[2,3,6,4,9,13,14,3,11,4,18,2,2000008,2000015,2000017,1000017]),(56,[4,6,4]),(36,[4,7,8,15,17,18,4,25,5,30,31,37,41,45,4,47,51,52,62,66,69,80,83,84,6,92,93,6,96,97,4]),(136,[3,6,9]),(37,[4,6,4]),(73,[5,7,9,13,15,19,21]),(11,[2,10,2,3,17,21,3,17,6,29,2,32,2]),(30,[4,6,4]),(74,[4,8,10,5,11,13,17,4,8,4]),(31,[2,2]),(32,[2,6,12,17,2]),(41,[2,4,6,8,3,9,10,13,14,15,2,6,20,2]),(75,[2,3,6,7,2]),(27,[4,5,6,4,2000007,6000007]),(64,[8,12,8,14,16,17,8,19,21,22,3,25,26,3,30,32,3,10,34,35,37,38,11,40,43,44,45,46,50,51,52,0,56,10,59,60,63,8]),(112,[4,7,10,4,13,16,17,4,5,20,21,6,23,25,4,26,5,28,29,30,0]),(158,[2,3,7,2,9,2]),(99,[4,5,6,4]),(146,[4,14,5,17,19,20,21,16,4,25,24,27,28,4,32,33,31,4,37,40,41,36,45,46,4,48,6,50,7,8,52,54,9,10,57,58,60,61,63,65,66,68,70,11,72,4,74,75,8,78,79,82,84,85,86,87,88,91,94,4,95,8,97,10,99,102,103,104,108,109,111,12,113,115,116,4,4,118,121,122,123,128,129,130,133,134,136,13,138,4,140,141,4,4]),(180,[4,5,6,4]),(182,[2,3,2]),(183,[4,12,11,5,6,16,7,8,9,18,19,23,25,26,8,21,9,30,31,33,34,35,37,4,40,10,41,42,45,8,47,48,49,8,53,54,55,56,57,8,63,10,65,66,68,69,70,71,73,75,78,79,4,4]),(205,[2,3,4,5,9,10,15,17,18,4,13,5,6,7,22,8,24,28,31,32,6,34,35,7,26,8,37,38,2,3]),(137,[4,6,4]),(127,[4,8,10,5,11,13,17,4,8,4]),(138,[2,3,2]),(139,[2,3,6,7,11,12,2]),(174,[4,6,8,10,5,11,12,13,4,8,4]),(93,[2,3,5,6,9,10,13,14,16,17,21,22,25,26,29,30,33,34,37,38,41,42,45,46,48,49,53,54,56,57,2]),(100,[2,3,5,6,9,10,12,13,2]),(101,[2,3,5,6,2]),(76,[2,3,6,7,2]),(140,[2,3,2]),(141,[2,3,5,6,10,11,12,18,19,2]),(179,[2,3,5,6,9,10,13,14,2]),(33,[2,3,2,7,2,2]),(77,[2,6,5,2,10,9,12,2,3,14,16,18,4,19,20,23,24,25,29,3,32,33,34,3,16,39,2]),(12,[2,3,4,5,9,17,2,22,24,3,26,28,3,14,4,33,2,36,2]),(34,[2,6,12,17,23,2]),(78,[2,3,5,6,2]),(48,[2,3,4,5,8,9,14,15,18,19,20,2,12,3,24,2]),(79,[2,5,4,7,14,2,11,4,19,2]),(142,[4,5,6,7,9,10,15,16,18,20,21,22,23,5,27,6,13,7,29,30,31,4]),(143,[2,3,4,5,8,9,14,15,2,12,3,19,22,23,2]),(97,[2,3,4,8,9,2,6,3,12,2]),(105,[2,3,5,6,9,10,12,13,17,18,20,21,2]),(80,[2,7,4,9,16,5,19,21,22,26,27,28,2,6,34,35,40,41,45,46,47,51,52,53,56,57,58,2,38,6,13,4,63,2]),(35,[2,2,3,16,2,21,2]),(81,[2,3,2,6,8,2,9,2]),(144,[2,3,4,5,6,11,12,15,16,17,21,3,25,26,27,28,3,9,4,32,2]),(9,[2,7,2,4,11,14,16,5,6,19,21,23,24,28,2,30,31,4,14,35,2]),(26,[3,2]),(63,[5,10,13,14,5,19,20,6,23,5,26,28,7,8,30,32,35,37,42,43,51,7,70,5,5]),(107,[6,7,8,10,11,12,6]),(108,[2,3,2]),(109,[4,5,7,8,4,11,12,12,12,12,12,12,12,4,20,20,20,20,4,25,27,30,31,35,36,4,4,4]),(110,[2,11,16,21,26,31,2]),(157,[2,2]),(175,[6,10,7,8,12,13,9,17,19,20,21,23,24,25,31,32,33,7,29,9,15,8,36,6]),(28,[4,15,14,5,6,7,20,22,23,4,25,26,28,29,4,31,34,38,33,40,8,9,42,4,44,45,4,48,50,51,4,53,56,55,11,60,4,62,4,70,71,69,12,13,75,4,77,4]),(43,[4,5,6,7,8,4,5,6]),(84,[4,5,6,8,9,7,11,13,14,16,17,18,4,5,6,22,4,5,6]),(65,[4,5,6,8,4,10,12,16,18,21,23,4,25,27,4,35,37,4,4,4]),(114,[4,5,6,8,9,12,14,18,5,20,0,22,1,24,4]),(70,[2,2,3,4,10,12,3,4,48,50,54,2]),(132,[2,2,2]),(71,[4,5,17,18,21,20,7,27,4,5,28,31,30,9,10,37,38,39,40,42,4,5,48,51,50,12,57,4,5,58,61,60,13,14,66,65,15,16,70,71,72,73,4,5,4,5]),(133,[3,9,3,13,0,15,4,17,19,3,24,25,23,6,31,32,30,7,8,38,40,41,3,45,3]),(44,[4,7,9,10,13,4,14,17,18,22,23,26,4,30,29,6,34,35,4,38,39,41,4]),(86,[4,5,8,9,10,14,17,18,0,22,4]),(85,[4,5,8,9,11,14,0,16,4]),(83,[4,5,9,10,15,16,18,21,22,20,6,7,8,28,4,30,31,5,35,34,37,4,13,5,4]),(92,[2,3,4,5,6,8,9,15,16,14,21,2,3,4,24,25,23,28,6,30,31,2,3,4,34,35,36,5,12,6,2,3,4]),(176,[5,8,6,10,5,13,14,15,17,18,5,5]),(45,[2,6,10,12,4,5,15,17,18,22,10,2]),(46,[2,3,11,2,3,4,5,6,15,16,44,45,43,48,5,6,51,50,2,3,54,55,53,59,60,58,7,8,9,66,2,3,68,69,72,73,4,5,6,19,10,20,21,24,25,26,30,10,32,33,2,3,35,36,37,38,42,4,5,6,75,2,3]),(177,[4,5,6,7,4,5]),(201,[4,5,6,7,10,4,5,11,12,14,4,5]),(219,[4,5,7,10,11,12,14,18,4]),(134,[2,3,10,9,2,3,14,13,2,3,4,18,21,6,26,25,8,30,32,2,3,37,4,21,42,2,3]),(42,[4,5,8,9,6,11,13,14,4,17,18,19,23,24,5,0])]
def mvB:List (Nat × List Nat):=[(4,[0]),(10,[0]),(19,[0])]
def aqZ:List (Nat × Nat):=[(159,1),(204,0),(181,2)]
noncomputable def aq6:List (Nat × (List Value->Heap->Option (Value × Heap))):=[(22,aiG)]
noncomputable def arO:List (Nat × (List V->VH->Option (V × VH))):=[(22,akw)]
noncomputable def base:abp where
 ng:=1
 tab:=axr
 fn:=Go.AM.look fnB
 I0:=ayW azc
 kind:=ara ayn ay2 aqZ
 ext:=aoy
 Y5:=fun f=>Go.AM.look aq6 f
def aqA:List (List UInt8):=[[74,97,110],[70,101,98],[77,97,114],[65,112,114],[77,97,121],[74,117,110],[74,117,108],[65,117,103],[83,101,112],[79,99,116],[78,111,118],[68,101,99]]
def C4:Nat->Option (List V):=alb 0 aqA
def giB:Nat->Bool:=fun _=>false
noncomputable def vb:U7 where
 b:=base
 H4:=C4
 gi:=giB
 C3:=atC awV
 mv:=atC mvB
 Y5:=fun f=>Go.AM.look arO f
noncomputable def cv:y0:=M7 vb
noncomputable def pc:FuncId->List V->Option V:=aar cv
noncomputable def qc:FuncId->List V->Option V:=P3 cv
noncomputable def pcg:FuncId->VH->List V->Option (V × VH):=acx cv
noncomputable def qco:FuncId->VH->List V->Option V:=Q7 cv
set_option maxRecDepth 100000 in
theorem fns:aq5 Tryz.prog fnB:=by
 unfold fnB
 refine ⟨⟨rfl,by kernel_rfl⟩,⟨rfl,by kernel_rfl⟩,⟨rfl,by kernel_rfl⟩,⟨rfl,by kernel_rfl⟩,⟨rfl,by kernel_rfl⟩,⟨rfl,by kernel_rfl⟩,⟨rfl,by kernel_rfl⟩,⟨rfl,by kernel_rfl⟩,⟨rfl,by kernel_rfl⟩,⟨rfl,by kernel_rfl⟩,⟨rfl,by kernel_rfl⟩,⟨rfl,by kernel_rfl⟩,⟨rfl,by kernel_rfl⟩,⟨rfl,by kernel_rfl⟩,⟨rfl,by kernel_rfl⟩,⟨rfl,by kernel_rfl⟩,⟨rfl,by kernel_rfl⟩,⟨rfl,by kernel_rfl⟩,⟨rfl,by kernel_rfl⟩,⟨rfl,by kernel_rfl⟩,⟨rfl,by kernel_rfl⟩,⟨rfl,by kernel_rfl⟩,⟨rfl,by kernel_rfl⟩,⟨rfl,by kernel_rfl⟩,⟨rfl,by kernel_rfl⟩,⟨rfl,by kernel_rfl⟩,⟨rfl,by kernel_rfl⟩,⟨rfl,by kernel_rfl⟩,⟨rfl,by kernel_rfl⟩,⟨rfl,by kernel_rfl⟩,⟨rfl,by kernel_rfl⟩,⟨rfl,by kernel_rfl⟩,⟨rfl,by kernel_rfl⟩,⟨rfl,by kernel_rfl⟩,⟨rfl,by kernel_rfl⟩,⟨rfl,by kernel_rfl⟩,⟨rfl,by kernel_rfl⟩,⟨rfl,by kernel_rfl⟩,⟨rfl,by kernel_rfl⟩,⟨rfl,by kernel_rfl⟩,⟨rfl,by kernel_rfl⟩,⟨rfl,by kernel_rfl⟩,⟨rfl,by kernel_rfl⟩,⟨rfl,by kernel_rfl⟩,⟨rfl,by kernel_rfl⟩,⟨rfl,by kernel_rfl⟩,⟨rfl,by kernel_rfl⟩,⟨rfl,by kernel_rfl⟩,⟨rfl,by kernel_rfl⟩,⟨rfl,by kernel_rfl⟩,⟨rfl,by kernel_rfl⟩,⟨rfl,by kernel_rfl⟩,⟨rfl,by kernel_rfl⟩,⟨rfl,by kernel_rfl⟩,⟨rfl,by kernel_rfl⟩,⟨rfl,by kernel_rfl⟩,⟨rfl,by kernel_rfl⟩,⟨rfl,by kernel_rfl⟩,⟨rfl,by kernel_rfl⟩,⟨rfl,by kernel_rfl⟩,⟨rfl,by kernel_rfl⟩,⟨rfl,by kernel_rfl⟩,⟨rfl,by kernel_rfl⟩,⟨rfl,by kernel_rfl⟩,⟨rfl,by kernel_rfl⟩,⟨rfl,by kernel_rfl⟩,⟨rfl,by kernel_rfl⟩,⟨rfl,by kernel_rfl⟩,⟨rfl,by kernel_rfl⟩,⟨rfl,by kernel_rfl⟩,⟨rfl,by kernel_rfl⟩,⟨rfl,by kernel_rfl⟩,⟨rfl,by kernel_rfl⟩,⟨rfl,by kernel_rfl⟩,⟨rfl,by kernel_rfl⟩,⟨rfl,by kernel_rfl⟩,⟨rfl,by kernel_rfl⟩,⟨rfl,by kernel_rfl⟩,⟨rfl,by kernel_rfl⟩,⟨rfl,by kernel_rfl⟩,⟨rfl,by kernel_rfl⟩,⟨rfl,by kernel_rfl⟩,⟨rfl,by kernel_rfl⟩,⟨rfl,by kernel_rfl⟩,⟨rfl,by kernel_rfl⟩,trivial⟩
theorem auz:anr Tryz.prog axr=true:=by kernel_rfl
theorem exts:aih Tryz.prog aqZ:=by
 unfold aqZ
 exact ⟨fun args w=>Go.run_callFunc_extern (fn:=Tryz.f159) (e:=Extern.BytealgCount.count) (by kernel_rfl) (by kernel_rfl) (by kernel_rfl) (by kernel_rfl) (by kernel_rfl) args w,fun args w=>Go.run_callFunc_extern (fn:=Tryz.f204) (e:=Extern.BytealgIndexByte.indexByte) (by kernel_rfl) (by kernel_rfl) (by kernel_rfl) (by kernel_rfl) (by kernel_rfl) args w,trivial,trivial⟩
def Tryz.afA:Go.Shelf.Ren:=⟨fun | 156=>22 | 165=>59 | 166=>60 | 169=>61 | 240=>103 | 241=>104 | 276=>155 | 277=>156 | n=>n,fun | 31=>42 | 9=>9 | 3=>3 | 4=>4 | 0=>0 | 20=>20 | 72=>85 | 76=>89 | 70=>83 | 37=>22 | 75=>88 | 127=>118 | 164=>158 | 5=>5 | 80=>91 | n=>n,fun | n=>n⟩
theorem Tryz.awb:Go.Proofs.Lays.n156 Tryz.prog Tryz.afA:={
 mixed:=by kernel_rfl
 f156:=Tryz.func22.trans (congrArg some (by kernel_rfl))
 f165:=Tryz.func59.trans (congrArg some (by kernel_rfl))
 f166:=Tryz.func60.trans (congrArg some (by kernel_rfl))
 f169:=Tryz.func61.trans (congrArg some (by kernel_rfl))
 f240:=Tryz.func103.trans (congrArg some (by kernel_rfl))
 f241:=Tryz.func104.trans (congrArg some (by kernel_rfl))
 f276:=Tryz.func155.trans (congrArg some (by kernel_rfl))
 f277:=Tryz.func156.trans (congrArg some (by kernel_rfl))
 t0:=Tryz.underlying0
 a0:=Tryz.isAgg0
 z0:=Tryz.sizeOf0
 v0:=Tryz.zeroValue0
 t3:=Tryz.underlying3
 a3:=Tryz.isAgg3
 z3:=Tryz.sizeOf3
 v3:=Tryz.zeroValue3
 t4:=Tryz.underlying4
 a4:=Tryz.isAgg4
 z4:=Tryz.sizeOf4
 v4:=Tryz.zeroValue4
 t9:=Tryz.underlying9
 a9:=Tryz.isAgg9
 z9:=Tryz.sizeOf9
 v9:=Tryz.zeroValue9
 t20:=Tryz.underlying20
 a20:=Tryz.isAgg20
 z20:=Tryz.sizeOf20
 v20:=Tryz.zeroValue20
 t31:=Tryz.underlying42
 a31:=Tryz.isAgg42
 z31:=Tryz.sizeOf42
 v31:=Tryz.zeroValue42
 t37:=Tryz.underlying22
 a37:=Tryz.isAgg22
 z37:=Tryz.sizeOf22
 v37:=Tryz.zeroValue22
 t70:=Tryz.underlying83
 a70:=Tryz.isAgg83
 z70:=Tryz.sizeOf83
 v70:=Tryz.zeroValue83
 t72:=Tryz.underlying85
 a72:=Tryz.isAgg85
 z72:=Tryz.sizeOf85
 v72:=Tryz.zeroValue85
 t75:=Tryz.underlying88
 a75:=Tryz.isAgg88
 z75:=Tryz.sizeOf88
 v75:=Tryz.zeroValue88
 t76:=Tryz.underlying89
 a76:=Tryz.isAgg89
 z76:=Tryz.sizeOf89
 v76:=Tryz.zeroValue89
 t127:=Tryz.underlying118
 a127:=Tryz.isAgg118
 z127:=Tryz.sizeOf118
 v127:=Tryz.zeroValue118
 t164:=Tryz.underlying158
 a164:=Tryz.isAgg158
 z164:=Tryz.sizeOf158
 v164:=Tryz.zeroValue158 }
theorem Tryz.ai2:Builder.Extra Tryz.prog Tryz.afA:={
 sizeBuilder:=by kernel_rfl
 liesBuilder:=by kernel_rfl
 t5:=Tryz.underlying5
 a5:=Tryz.isAgg5
 z5:=Tryz.sizeOf5
 v5:=Tryz.zeroValue5
 infoByte:=by kernel_rfl
 cellsByte:=by kernel_rfl
 sizeByte:=by kernel_rfl
 neB5:=by decide }
theorem ayP:av7 Tryz.prog Tryz.afA:=⟨Tryz.awb,Tryz.ai2⟩
theorem atQ:al4 Tryz.prog 1 aq6:=⟨fun args hp r hp' h=>asv 1 ayP h,trivial⟩
theorem awr:agc Tryz.prog base where
 tab:=ale auz
 fn:=aso fns
 ext:=ayk exts
 Y5:=aoL (P:=Tryz.prog) (ng:=1) atQ
 mixed:=by kernel_rfl
theorem asN:ajM vb arO:=⟨fun args H r H' h=>atL (b:=base) rfl h,trivial⟩
theorem ayZ:aiU vb where
 zero:=au3 (ale auz)
 sl:=axq (ale auz)
 gd:=fun g cs h=>by exact arh h
 pos:=aqa (by kernel_rfl)
 ar5:=fun f h=>anc (f:=f) (l:=arO) (l':=aq6) rfl h
 Y5:=amL asN
end Go.Proofs.YtmokcpfbeggigaaGreatDoor.Q
