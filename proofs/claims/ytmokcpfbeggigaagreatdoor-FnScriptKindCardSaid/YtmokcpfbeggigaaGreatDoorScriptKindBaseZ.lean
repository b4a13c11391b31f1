/- The program's functions, types and marks, as the machines take them. -/
import Derived.Test.YtmokcpfbeggigaaGreatDoorProg
import Derived.Test.YtmokcpfbeggigaaGreatDoorFnScriptKindK4
import Derived.KernelRfl
namespace Go.Proofs.YtmokcpfbeggigaaGreatDoor.Q
open Go Go.AM Go.Proofs Go.Shelf
set_option linter.unusedVariables false
def X8:Nat:=5
def O0:Nat:=13
def aah:Nat:=19
def B6:Nat:=36
def C2:Nat:=37
def acx:Nat:=40
def U2:Nat:=56
def aaN:Nat:=82
def abv:Nat:=145
def D4:Nat:=51
def T5:Nat:=39
def O6:Nat:=53
def V9:Nat:=98
def acC:Nat:=154
def Y7:Nat:=105
def acn:Nat:=78
def O9:Nat:=48
def U6:Nat:=81
def abc:Nat:=143
def aaM:Nat:=97
def aae:Nat:=144
def ack:Nat:=38
def P0:Nat:=14
def K8:Nat:=41
def J7:Nat:=42
def aab:Nat:=83
def V8:Nat:=92
def aai:Nat:=44
def F8:Nat:=86
def G6:Nat:=85
def aeF:Nat:=87
def adK:Nat:=89
def ad6:Nat:=88
def acR:Nat:=91
def adj:Nat:=90
def W2:Nat:=43
def N1:Nat:=84
def F6:Nat:=146
def I0:Nat:=180
def D5:Nat:=45
def T2:Nat:=46
def N4:Nat:=93
def R6:Nat:=100
def Z8:Nat:=101
def O8:Nat:=47
def L7:Nat:=94
def aco:Nat:=151
def X5:Nat:=174
def Y6:Nat:=187
def aaj:Nat:=95
def G0:Nat:=153
def aby:Nat:=129
def C1:Nat:=152
def Q5:Nat:=55
def V0:Nat:=77
def aa9:Nat:=139
def V2:Nat:=15
def D6:Nat:=49
def W5:Nat:=96
def J0:Nat:=50
def T4:Nat:=52
def W8:Nat:=16
def A6:Nat:=54
def G7:Nat:=9
def ab1:Nat:=26
def aaL:Nat:=63
def F4:Nat:=107
def aaO:Nat:=108
def P9:Nat:=109
def U1:Nat:=110
def Y5:Nat:=157
def S6:Nat:=175
def Y3:Nat:=27
def R9:Nat:=64
def ah2:Nat:=111
def abw:Nat:=112
def abl:Nat:=158
def abu:Nat:=99
def U8:Nat:=28
def afC:Nat:=65
def agQ:Nat:=66
def ame:Nat:=67
def ajc:Nat:=68
def aje:Nat:=69
def aia:Nat:=70
def I4:Nat:=71
def agE:Nat:=133
def afL:Nat:=33
def ajo:Nat:=134
def ahO:Nat:=11
def N0:Nat:=17
def ahQ:Nat:=135
def aie:Nat:=7
noncomputable def axU:List (Nat × TI):=[
 (22,⟨.slice 5 1 1 [(.int .u8 0)],false,1,[(.slice none 0 0)]⟩),
 (3,⟨.int .i64,false,1,[(.int .i64 0)]⟩),
 (9,⟨.str,false,1,[(.string (bs []))]⟩),
 (33,⟨.struct [(0,1,false),(1,1,false),(2,1,false)],true,3,[(.string (bs [])),(.string (bs [])),(.slice none 0 0)]⟩),
 (4,⟨.bool,false,1,[(.bool false)]⟩),
 (39,⟨.other,false,1,[(.pointer none)]⟩),
 (42,⟨.slice 9 1 16 [(.string (bs []))],false,1,[(.slice none 0 0)]⟩),
 (80,⟨.struct [(0,1,false),(1,1,false)],true,2,[(.slice none 0 0),(.int .i64 0)]⟩),
 (5,⟨.int .u8,false,1,[(.int .u8 0)]⟩),
 (31,⟨.slice 73 2 32 [(.string (bs [])),(.string (bs []))],false,1,[(.slice none 0 0)]⟩),
 (78,⟨.slice 3 1 8 [(.int .i64 0)],false,1,[(.slice none 0 0)]⟩),
 (73,⟨.struct [(0,1,false),(1,1,false)],true,2,[(.string (bs [])),(.string (bs []))]⟩),
 (107,⟨.arr 256 1,true,256,[(.bool false),(.bool false),(.bool false),(.bool false),(.bool false),(.bool false),(.bool false),(.bool false),(.bool false),(.bool false),(.bool false),(.bool false),(.bool false),(.bool false),(.bool false),(.bool false),(.bool false),(.bool false),(.bool false),(.bool false),(.bool false),(.bool false),(.bool false),(.bool false),(.bool false),(.bool false),(.bool false),(.bool false),(.bool false),(.bool false),(.bool false),(.bool false),(.bool false),(.bool false),(.bool false),(.bool false),(.bool false),(.bool false),(.bool false),(.bool false),(.bool false),(.bool false),(.bool false),(.bool false),(.bool false),(.bool false),(.bool false),(.bool false),(.bool false),(.bool false),(.bool false),(.bool false),(.bool false),(.bool false),(.bool false),(.bool false),(.bool false),(.bool false),(.bool false),(.bool false),(.bool false),(.bool false),(.bool false),(.bool false),(.bool false),(.bool false),(.bool false),(.bool false),(.bool false),(.bool false),(.bool false),(.bool false),(.bool false),(.bool false),(.bool false),(.bool false),(.bool false),(.bool false),(.bool false),(.bool false),(.bool false),(.bool false),(.bool false),(.bool false),(.bool false),(.bool false),(.bool false),(.bool false),(.bool false),(.bool false),(.bool false),(.bool false),(.bool false),(.bool false),(.bool false),(.bool false),(.bool false),(.bool false),(.bool false),(.bool false),(.bool false),(.bool false),(.bool false),(.bool false),(.bool false),(.bool false),(.bool false),(.bool false),(.bool false),(.bool false),(.bool false),(.bool false),(.bool false),(.bool false),(.bool false),(.bool false),(.bool false),(.bool false),(.bool false),(.bool false),(.bool false),(.bool false),(.bool false),(.bool false),(.bool false),(.bool false),(.bool false),(.bool false),(.bool false),(.bool false),(.bool false),(.bool false),(.bool false),(.bool false),(.bool false),(.bool false),(.bool false),(.bool false),(.bool false),(.bool false),(.bool false),(.bool false),(.bool false),(.bool false),(.bool false),(.bool false),(.bool false),(.bool false),(.bool false),(.bool false),(.bool false),(.bool false),(.bool false),(.bool false),(.bool false),(.bool false),(.bool false),(.bool false),(.bool false),(.bool false),(.bool false),(.bool false),(.bool false),(.bool false),(.bool false),(.bool false),(.bool false),(.bool false),(.bool false),(.bool false),(.bool false),(.bool false),(.bool false),(.bool false),(.bool false),(.bool false),(.bool false),(.bool false),(.bool false),(.bool false),(.bool false),(.bool false),(.bool false),(.bool false),(.bool false),(.bool false),(.bool false),(.bool false),(.bool false),(.bool false),(.bool false),(.bool false),(.bool false),(.bool false),(.bool false),(.bool false),(.bool false),(.bool false),(.bool false),(.bool false),(.bool false),(.bool false),(.bool false),(.bool false),(.bool false),(.bool false),(.bool false),(.bool false),(.bool false),(.bool false),(.bool false),(.bool false),(.bool false),(.bool false),(.bool false),(.bool false),(.bool false),(.bool false),(.bool false),(.bool false),(.bool false),(.bool false),(.bool false),(.bool false),(.bool false),(.bool false),(.bool false),(.bool false),(.bool false),(.bool false),(.bool false),(.bool false),(.bool false),(.bool false),(.bool false),(.bool false),(.bool false),(.bool false),(.bool false),(.bool false),(.bool false),(.bool false),(.bool false),(.bool false),(.bool false),(.bool false),(.bool false),(.bool false),(.bool false),(.bool false),(.bool false),(.bool false),(.bool false),(.bool false),(.bool false),(.bool false)]⟩),
 (111,⟨.other,false,1,[(.pointer none)]⟩),
 (192,⟨.int .u32,false,1,[(.int .u32 0)]⟩),
 (114,⟨.other,false,1,[.nilFunc]⟩),
 (156,⟨.other,false,1,[.nilFunc]⟩),
 (53,⟨.struct [(0,1,false),(1,6,true),(7,7,true)],true,14,[(.slice none 0 0),(.int .i64 0),(.string (bs [])),(.string (bs [])),(.slice none 0 0),(.slice none 0 0),(.slice none 0 0),(.int .i64 0),(.int .i64 0),(.int .i64 0),(.int .i64 0),(.int .i64 0),(.int .i64 0),(.int .i64 0)]⟩),
 (51,⟨.struct [(0,1,false),(1,1,false),(2,1,false),(3,1,false),(4,1,false),(5,1,false),(6,1,false)],true,7,[(.int .i64 0),(.int .i64 0),(.int .i64 0),(.int .i64 0),(.int .i64 0),(.int .i64 0),(.int .i64 0)]⟩),
 (95,⟨.other,false,1,[(.pointer none)]⟩),
 (44,⟨.slice 134 2 40 [(.string (bs [])),(.slice none 0 0)],false,1,[(.slice none 0 0)]⟩),
 (49,⟨.struct [(0,1,false),(1,1,false),(2,3,true),(5,1,false)],true,6,[(.int .i64 0),(.string (bs [])),(.string (bs [])),(.slice none 0 0),(.slice none 0 0),(.slice none 0 0)]⟩),
 (47,⟨.slice 46 3 64 [(.string (bs [])),(.slice none 0 0),(.slice none 0 0)],false,1,[(.slice none 0 0)]⟩),
 (141,⟨.arr 12 1,true,12,[(.string (bs [])),(.string (bs [])),(.string (bs [])),(.string (bs [])),(.string (bs [])),(.string (bs [])),(.string (bs [])),(.string (bs [])),(.string (bs [])),(.string (bs [])),(.string (bs [])),(.string (bs []))]⟩),
 (178,⟨.arr 7 1,true,7,[(.string (bs [])),(.string (bs [])),(.string (bs [])),(.string (bs [])),(.string (bs [])),(.string (bs [])),(.string (bs []))]⟩),
 (59,⟨.struct [(0,1,false),(1,1,false),(2,1,false)],true,3,[(.string (bs [])),(.string (bs [])),(.string (bs []))]⟩),
 (28,⟨.slice 59 3 48 [(.string (bs [])),(.string (bs [])),(.string (bs []))],false,1,[(.slice none 0 0)]⟩),
 (134,⟨.struct [(0,1,false),(1,1,false)],true,2,[(.string (bs [])),(.slice none 0 0)]⟩),
 (46,⟨.struct [(0,1,false),(1,1,false),(2,1,false)],true,3,[(.string (bs [])),(.slice none 0 0),(.slice none 0 0)]⟩)]
noncomputable def ayP:List (Nat × P8):=[
 (5,{ loc:=[4,6],loops:=[],l9:=[(6,8,[(.ret,⟨[2],[],[]⟩),(.normal,⟨[3,5],[(4,(4,0))],[(4,3)]⟩)])],full:=[],o6:=false }),
 (13,{ loc:=[],loops:=[],l9:=[],full:=[],o6:=false }),
 (19,{ loc:=[],loops:=[],l9:=[(1,3,[(.normal,⟨[0],[],[]⟩)])],full:=[],o6:=false }),
 (36,{ loc:=[],loops:=[],l9:=[(2,4,[(.ret,⟨[4],[],[]⟩),(.normal,⟨[0,1],[],[]⟩)])],full:=[],o6:=false }),
 (37,{ loc:=[],loops:=[],l9:=[],full:=[],o6:=false }),
 (40,{ loc:=[2,3,5],loops:=[(3,⟨⟨[0,4],[(2,(2,0)),(3,(3,0))],[(2,3),(3,3)]⟩,[(.exit 0,⟨[],[(2,(2,0)),(3,(3,0))],[(2,3),(3,3)]⟩)]⟩)],l9:=[(5,4,[(.normal,⟨[0,4],[(2,(2,0)),(3,(3,0))],[(2,3),(3,3)]⟩)])],full:=[],o6:=false }),
 (56,{ loc:=[],loops:=[],l9:=[],full:=[],o6:=false }),
 (82,{ loc:=[],loops:=[(2,⟨⟨[0,1,5],[],[]⟩,[(.exit 0,⟨[],[],[]⟩),(.ret,⟨[4],[],[]⟩)]⟩)],l9:=[],full:=[],o6:=false }),
 (145,{ loc:=[],loops:=[],l9:=[],full:=[],o6:=false }),
 (51,{ loc:=[],loops:=[(3,⟨⟨[3,4],[],[]⟩,[(.exit 0,⟨[3],[],[]⟩)]⟩)],l9:=[(5,4,[(.normal,⟨[3,4],[],[]⟩)])],full:=[],o6:=false }),
 (39,{ loc:=[1],loops:=[(5,⟨⟨[3,4],[(1,(1,0))],[(1,3)]⟩,[(.exit 0,⟨[3],[],[]⟩)]⟩)],l9:=[],full:=[],o6:=false }),
 (53,{ loc:=[1,5],loops:=[(5,⟨⟨[3,4],[(1,(1,0))],[(1,3)]⟩,[(.exit 0,⟨[3],[],[]⟩),(.ret,⟨[2],[],[]⟩)]⟩)],l9:=[(7,6,[(.ret,⟨[2],[],[]⟩),(.normal,⟨[3,4],[(1,(1,0))],[(1,3)]⟩)]),(8,10,[(.ret,⟨[2],[],[]⟩),(.normal,⟨[3,4],[(1,(1,0)),(5,(5,0))],[(1,3),(5,2)]⟩)]),(1,3,[(.ret,⟨[2],[],[]⟩),(.normal,⟨[],[(1,(1,0))],[(1,3)]⟩)])],full:=[],o6:=false }),
 (98,{ loc:=[],loops:=[],l9:=[],full:=[],o6:=false }),
 (154,{ loc:=[],loops:=[(2,⟨⟨[0,3],[],[]⟩,[(.exit 0,⟨[0],[],[]⟩),(.ret,⟨[2],[],[]⟩)]⟩)],l9:=[(4,3,[(.ret,⟨[2],[],[]⟩),(.normal,⟨[0,3],[],[]⟩)]),(2,4,[(.normal,⟨[0,3],[],[]⟩),(.exit 0,⟨[0],[],[]⟩)])],full:=[],o6:=false }),
 (105,{ loc:=[],loops:=[],l9:=[],full:=[],o6:=false }),
 (78,{ loc:=[],loops:=[],l9:=[],full:=[],o6:=false }),
 (48,{ loc:=[],loops:=[(2,⟨⟨[0,3],[],[]⟩,[(.exit 0,⟨[0],[],[]⟩),(.ret,⟨[2],[],[]⟩)]⟩)],l9:=[(4,3,[(.ret,⟨[2],[],[]⟩),(.normal,⟨[0,3],[],[]⟩)]),(2,4,[(.normal,⟨[0,3],[],[]⟩),(.exit 0,⟨[0],[],[]⟩)])],full:=[],o6:=false }),
 (81,{ loc:=[],loops:=[],l9:=[],full:=[],o6:=false }),
 (143,{ loc:=[],loops:=[(2,⟨⟨[0,3],[],[]⟩,[(.exit 0,⟨[0],[],[]⟩),(.ret,⟨[2],[],[]⟩)]⟩)],l9:=[(2,4,[(.normal,⟨[0,3],[],[]⟩),(.exit 0,⟨[0],[],[]⟩)])],full:=[],o6:=false }),
 (97,{ loc:=[],loops:=[(2,⟨⟨[0,3],[],[]⟩,[(.exit 0,⟨[0],[],[]⟩),(.ret,⟨[2],[],[]⟩)]⟩)],l9:=[],full:=[],o6:=false }),
 (144,{ loc:=[],loops:=[(3,⟨⟨[0,3,4],[],[]⟩,[(.exit 0,⟨[3],[],[]⟩)]⟩)],l9:=[(5,4,[(.normal,⟨[0,3,4],[],[]⟩)]),(5,7,[(.normal,⟨[0,3,4],[],[]⟩)])],full:=[],o6:=false }),
 (38,{ loc:=[],loops:=[],l9:=[(1,3,[(.ret,⟨[6],[],[]⟩),(.normal,⟨[0,1,2],[],[]⟩)])],full:=[],o6:=false }),
 (14,{ loc:=[2,8],loops:=[(7,⟨⟨[7,37,38,39],[(2,(2,0)),(8,(8,0))],[(2,3),(8,3)]⟩,[(.exit 0,⟨[7],[(2,(2,0)),(8,(8,0))],[(2,3),(8,3)]⟩),(.ret,⟨[3],[(2,(2,0))],[(2,3)]⟩)]⟩)],l9:=[(15,17,[(.ret,⟨[3],[(2,(2,0))],[(2,3)]⟩),(.normal,⟨[],[(2,(2,0)),(8,(8,0))],[(2,3),(8,3)]⟩)]),(11,13,[(.ret,⟨[3],[(2,(2,0))],[(2,3)]⟩),(.normal,⟨[7,11,14,37,38,39],[(2,(2,0)),(8,(8,0))],[(2,3),(8,3)]⟩)])],full:=[],o6:=false }),
 (41,{ loc:=[],loops:=[(2,⟨⟨[0,5,6],[],[]⟩,[(.exit 0,⟨[0],[],[]⟩),(.ret,⟨[2],[],[]⟩)]⟩)],l9:=[],full:=[],o6:=false }),
 (42,{ loc:=[],loops:=[(2,⟨⟨[0,1,5],[],[]⟩,[(.ret,⟨[4],[],[]⟩)]⟩)],l9:=[],full:=[],o6:=false }),
 (83,{ loc:=[],loops:=[(2,⟨⟨[0,1,5],[],[]⟩,[(.exit 0,⟨[],[],[]⟩),(.ret,⟨[4],[],[]⟩)]⟩)],l9:=[(4,3,[(.ret,⟨[4],[],[]⟩),(.normal,⟨[0,1,5],[],[]⟩)])],full:=[],o6:=false }),
 (92,{ loc:=[],loops:=[(3,⟨⟨[0,5,6],[],[]⟩,[(.exit 0,⟨[],[],[]⟩),(.ret,⟨[2,3,4],[],[]⟩)]⟩)],l9:=[(5,4,[(.ret,⟨[2,3,4],[],[]⟩),(.normal,⟨[0,5,6],[],[]⟩)]),(5,11,[(.ret,⟨[2,3,4],[],[]⟩),(.normal,⟨[0,5,6],[],[]⟩)])],full:=[],o6:=false }),
 (44,{ loc:=[],loops:=[],l9:=[(3,5,[(.ret,⟨[4],[],[]⟩),(.normal,⟨[0,1],[],[]⟩)]),(1,3,[(.ret,⟨[4],[],[]⟩),(.normal,⟨[0,1],[],[]⟩)])],full:=[],o6:=false }),
 (86,{ loc:=[],loops:=[(1,⟨⟨[0,1],[],[]⟩,[(.exit 0,⟨[0],[],[]⟩)]⟩)],l9:=[(1,2,[(.normal,⟨[0,1],[],[]⟩),(.exit 0,⟨[0],[],[]⟩)])],full:=[],o6:=false }),
 (85,{ loc:=[],loops:=[(1,⟨⟨[0,1],[],[]⟩,[(.exit 0,⟨[0],[],[]⟩)]⟩)],l9:=[(1,2,[(.normal,⟨[0,1],[],[]⟩),(.exit 0,⟨[0],[],[]⟩)])],full:=[],o6:=false }),
 (43,{ loc:=[],loops:=[],l9:=[],full:=[],o6:=false }),
 (84,{ loc:=[],loops:=[],l9:=[],full:=[],o6:=false }),
 (146,{ loc:=[],loops:=[(15,⟨⟨[0,1,5,6,7,8,9,10],[],[]⟩,[(.exit 1,⟨[],[],[]⟩),(.ret,⟨[4],[],[]⟩)]⟩)],l9:=[(21,23,[(.ret,⟨[4],[],[]⟩),(.normal,⟨[0,1,5,6,7,8,9,10],[],[]⟩)]),(16,21,[(.ret,⟨[4],[],[]⟩),(.normal,⟨[0,1,5,6,7,8,9,10],[],[]⟩)]),(2,10,[(.ret,⟨[4],[],[]⟩),(.normal,⟨[0,1,5],[],[]⟩)])],full:=[],o6:=false }),
 (180,{ loc:=[],loops:=[],l9:=[],full:=[],o6:=false }),
 (182,{ loc:=[],loops:=[],l9:=[],full:=[],o6:=false }),
 (183,{ loc:=[],loops:=[(11,⟨⟨[0,1,5,6,7,8,10],[],[]⟩,[(.exit 2,⟨[],[],[]⟩),(.ret,⟨[4],[],[]⟩)]⟩),(5,⟨⟨[0,1,5,6,7,8,9],[],[]⟩,[(.exit 0,⟨[0,1,5,6,7,8],[],[]⟩)]⟩)],l9:=[(8,10,[(.ret,⟨[4],[],[]⟩),(.normal,⟨[0,1,5,6,7,8],[],[]⟩)])],full:=[],o6:=false }),
 (205,{ loc:=[],loops:=[(8,⟨⟨[4,6,7,8],[],[]⟩,[(.exit 2,⟨[4,6],[],[]⟩)]⟩),(3,⟨⟨[0,4,5],[],[]⟩,[(.exit 0,⟨[0,4],[],[]⟩)]⟩)],l9:=[(10,9,[(.normal,⟨[4,6,7,8],[],[]⟩)]),(10,12,[(.normal,⟨[4,6,7,8],[],[]⟩)])],full:=[],o6:=false }),
 (45,{ loc:=[],loops:=[(3,⟨⟨[3,8,9,10],[],[]⟩,[(.exit 0,⟨[3],[],[]⟩)]⟩)],l9:=[],full:=[],o6:=false }),
 (46,{ loc:=[],loops:=[(5,⟨⟨[0,4,5,6],[],[]⟩,[(.exit 0,⟨[4],[],[]⟩),(.ret,⟨[2,3],[],[]⟩)]⟩),(7,⟨⟨[0,4,5,10],[],[]⟩,[(.exit 3,⟨[0,4,5,10],[],[]⟩)]⟩)],l9:=[(7,8,[(.normal,⟨[0,4,5,10],[],[]⟩),(.exit 3,⟨[0,4,5,10],[],[]⟩)])],full:=[],o6:=false }),
 (93,{ loc:=[],loops:=[],l9:=[],full:=[],o6:=false }),
 (100,{ loc:=[],loops:=[],l9:=[],full:=[],o6:=false }),
 (101,{ loc:=[],loops:=[],l9:=[],full:=[],o6:=false }),
 (47,{ loc:=[1,4],loops:=[(4,⟨⟨[22,23,24],[(1,(1,0))],[(1,3)]⟩,[(.exit 0,⟨[],[(1,(1,0))],[(1,3)]⟩),(.ret,⟨[2],[],[]⟩)]⟩)],l9:=[(1,3,[(.ret,⟨[2],[],[]⟩),(.normal,⟨[],[(1,(1,0))],[(1,3)]⟩)])],full:=[],o6:=false }),
 (94,{ loc:=[],loops:=[],l9:=[],full:=[],o6:=false }),
 (151,{ loc:=[],loops:=[],l9:=[],full:=[],o6:=false }),
 (174,{ loc:=[],loops:=[(2,⟨⟨[0,1,7,8],[],[]⟩,[(.exit 0,⟨[],[],[]⟩),(.ret,⟨[4],[],[]⟩)]⟩)],l9:=[],full:=[],o6:=true }),
 (187,{ loc:=[],loops:=[],l9:=[],full:=[],o6:=false }),
 (95,{ loc:=[],loops:=[],l9:=[],full:=[],o6:=false }),
 (153,{ loc:=[2],loops:=[],l9:=[],full:=[],o6:=false }),
 (129,{ loc:=[],loops:=[],l9:=[],full:=[],o6:=false }),
 (152,{ loc:=[],loops:=[(2,⟨⟨[0,1,7,8],[],[]⟩,[(.exit 0,⟨[],[],[]⟩),(.ret,⟨[4],[],[]⟩)]⟩)],l9:=[],full:=[],o6:=true }),
 (55,{ loc:=[1,5],loops:=[(3,⟨⟨[3,13,14,15],[],[]⟩,[(.exit 0,⟨[3],[],[]⟩)]⟩)],l9:=[],full:=[],o6:=false }),
 (77,{ loc:=[],loops:=[(7,⟨⟨[0,3,15,16],[],[]⟩,[(.exit 1,⟨[3],[],[]⟩)]⟩)],l9:=[(9,11,[(.normal,⟨[0,3,4,15,16],[],[]⟩)])],full:=[],o6:=false }),
 (139,{ loc:=[],loops:=[],l9:=[],full:=[],o6:=false }),
 (15,{ loc:=[2,10],loops:=[(6,⟨⟨[5,6,9],[(2,(2,0)),(10,(10,0))],[(2,3),(10,3)]⟩,[(.exit 0,⟨[9],[(2,(2,0)),(10,(10,0))],[(2,3),(10,3)]⟩),(.ret,⟨[3],[(2,(2,0))],[(2,3)]⟩)]⟩)],l9:=[(14,16,[(.ret,⟨[3],[(2,(2,0))],[(2,3)]⟩),(.normal,⟨[],[(2,(2,0)),(10,(10,0))],[(2,3),(10,3)]⟩)]),(11,13,[(.ret,⟨[3],[(2,(2,0))],[(2,3)]⟩),(.normal,⟨[5,6,9,12,15],[(2,(2,0)),(10,(10,0))],[(2,3),(10,3)]⟩)])],full:=[],o6:=false }),
 (49,{ loc:=[],loops:=[(2,⟨⟨[0,1,7],[],[]⟩,[(.exit 0,⟨[0],[],[]⟩),(.ret,⟨[4,5,6],[],[]⟩)]⟩)],l9:=[],full:=[],o6:=false }),
 (96,{ loc:=[],loops:=[(3,⟨⟨[0,6,7],[],[]⟩,[(.exit 0,⟨[],[],[]⟩),(.ret,⟨[4,5],[],[]⟩)]⟩)],l9:=[(5,4,[(.ret,⟨[4,5],[],[]⟩),(.normal,⟨[0,6,7],[],[]⟩)]),(7,11,[(.ret,⟨[4,5],[],[]⟩),(.normal,⟨[0,6,7],[],[]⟩)])],full:=[],o6:=false }),
 (50,{ loc:=[],loops:=[(3,⟨⟨[0],[],[]⟩,[(.exit 2,⟨[0],[],[]⟩)]⟩),(1,⟨⟨[0],[],[]⟩,[(.exit 0,⟨[0],[],[]⟩)]⟩)],l9:=[(3,4,[(.normal,⟨[0],[],[]⟩),(.exit 2,⟨[0],[],[]⟩)]),(1,2,[(.normal,⟨[0],[],[]⟩),(.exit 0,⟨[0],[],[]⟩)])],full:=[],o6:=false }),
 (52,{ loc:=[],loops:=[(3,⟨⟨[0,4,5],[],[]⟩,[(.exit 0,⟨[4],[],[]⟩),(.ret,⟨[2,3],[],[]⟩)]⟩),(12,⟨⟨[0,4,5,6],[],[]⟩,[(.exit 2,⟨[0,4,5,6],[],[]⟩)]⟩)],l9:=[(15,17,[(.ret,⟨[2,3],[],[]⟩),(.normal,⟨[0,4,5,7],[],[]⟩)]),(8,15,[(.ret,⟨[2,3],[],[]⟩),(.normal,⟨[0,4,5,6,7],[],[]⟩)]),(12,13,[(.normal,⟨[0,4,5,6],[],[]⟩),(.exit 2,⟨[0,4,5,6],[],[]⟩)])],full:=[],o6:=false }),
 (16,{ loc:=[2,3],loops:=[],l9:=[],full:=[],o6:=false }),
 (54,{ loc:=[],loops:=[(4,⟨⟨[0,1,12,13],[],[]⟩,[(.exit 0,⟨[],[],[]⟩),(.ret,⟨[4],[],[]⟩)]⟩)],l9:=[],full:=[],o6:=false }),
 (9,{ loc:=[],loops:=[(5,⟨⟨[3,4,12,13,14],[],[]⟩,[(.exit 0,⟨[4],[],[]⟩),(.ret,⟨[2],[],[]⟩)]⟩)],l9:=[(8,10,[(.ret,⟨[2],[],[]⟩),(.normal,⟨[3,4,6,12,13,14],[],[]⟩)])],full:=[],o6:=false }),
 (26,{ loc:=[0,1],loops:=[],l9:=[],full:=[],o6:=false }),
 (63,{ loc:=[4,9],loops:=[(8,⟨⟨[7],[(4,(4,0)),(9,(9,0))],[(4,7),(9,7)]⟩,[(.exit 0,⟨[7],[(4,(4,0)),(9,(9,0))],[(4,7),(9,7)]⟩)]⟩)],l9:=[(8,9,[(.normal,⟨[7],[(4,(4,0)),(9,(9,0))],[(4,7),(9,7)]⟩),(.exit 0,⟨[7],[(4,(4,0)),(9,(9,0))],[(4,7),(9,7)]⟩)]),(1,3,[(.ret,⟨[5],[(4,(4,0))],[(4,7)]⟩),(.normal,⟨[0,1],[(4,(4,0))],[(4,7)]⟩)])],full:=[],o6:=false }),
 (107,{ loc:=[],loops:=[],l9:=[],full:=[],o6:=false }),
 (108,{ loc:=[],loops:=[],l9:=[],full:=[],o6:=false }),
 (109,{ loc:=[],loops:=[],l9:=[(12,16,[(.normal,⟨[0,11,20],[],[]⟩)]),(4,11,[(.normal,⟨[0,11,12],[],[]⟩)]),(1,3,[(.ret,⟨[4],[],[]⟩),(.normal,⟨[0,1],[],[]⟩)])],full:=[],o6:=false }),
 (110,{ loc:=[1],loops:=[],l9:=[],full:=[],o6:=false }),
 (157,{ loc:=[1],loops:=[],l9:=[],full:=[],o6:=false }),
 (175,{ loc:=[],loops:=[(3,⟨⟨[0,1,7,8],[],[]⟩,[(.exit 0,⟨[7],[],[]⟩)]⟩),(6,⟨⟨[0,1,7,8,9],[],[]⟩,[(.exit 2,⟨[0,1,7,8],[],[]⟩)]⟩)],l9:=[(6,8,[(.normal,⟨[0,1,7,8,9],[],[]⟩),(.exit 2,⟨[0,1,7,8],[],[]⟩)])],full:=[],o6:=false }),
 (27,{ loc:=[],loops:=[],l9:=[],full:=[],o6:=false }),
 (64,{ loc:=[],loops:=[(11,⟨⟨[0,1,2,3,9,10],[],[]⟩,[(.exit 0,⟨[0,9,10],[],[]⟩)]⟩)],l9:=[(5,7,[(.normal,⟨[0,1,2,3],[],[]⟩)])],full:=[],o6:=false }),
 (112,{ loc:=[],loops:=[(6,⟨⟨[0,1,5],[],[]⟩,[(.ret,⟨[4],[],[]⟩)]⟩)],l9:=[],full:=[],o6:=false }),
 (158,{ loc:=[],loops:=[],l9:=[],full:=[],o6:=false }),
 (99,{ loc:=[],loops:=[],l9:=[],full:=[],o6:=false }),
 (28,{ loc:=[10],loops:=[],l9:=[],full:=[],o6:=false }),
 (65,{ loc:=[],loops:=[],l9:=[],full:=[],o6:=false }),
 (114,{ loc:=[],loops:=[(2,⟨⟨[0,1,5],[],[]⟩,[(.exit 0,⟨[5],[],[]⟩)]⟩)],l9:=[(2,3,[(.normal,⟨[0,1,5],[],[]⟩),(.exit 0,⟨[5],[],[]⟩)])],full:=[],o6:=false }),
 (70,{ loc:=[1],loops:=[],l9:=[(4,6,[(.normal,⟨[3,4],[(1,(1,0))],[(1,7)]⟩)])],full:=[],o6:=false }),
 (132,{ loc:=[1],loops:=[],l9:=[],full:=[],o6:=false }),
 (71,{ loc:=[6,11],loops:=[],l9:=[],full:=[],o6:=false }),
 (17,{ loc:=[1],loops:=[],l9:=[],full:=[],o6:=false })]
noncomputable def fnB:List (Nat × Func):=[
 (5,Tryz.f5),(13,Tryz.f13),(19,Tryz.f19),(36,Tryz.f36),(37,Tryz.f37),(40,Tryz.f40),(56,Tryz.f56),(82,Tryz.f82),(145,Tryz.f145),(51,Tryz.f51),(39,Tryz.f39),(53,Tryz.f53),(98,Tryz.f98),(154,Tryz.f154),(105,Tryz.f105),(78,Tryz.f78),(48,Tryz.f48),(81,Tryz.f81),(143,Tryz.f143),(97,Tryz.f97),(144,Tryz.f144),(38,Tryz.f38),(14,Tryz.f14),(41,Tryz.f41),(42,Tryz.f42),(83,Tryz.f83),(92,Tryz.f92),(44,Tryz.f44),(86,Tryz.f86),(85,Tryz.f85),(43,Tryz.f43),(84,Tryz.f84),(146,Tryz.f146),(180,Tryz.f180),(182,Tryz.f182),(183,Tryz.f183),(205,Tryz.f205),(45,Tryz.f45),(46,Tryz.f46),(93,Tryz.f93),(100,Tryz.f100),(101,Tryz.f101),(47,Tryz.f47),(94,Tryz.f94),(151,Tryz.f151),(174,Tryz.f174),(187,Tryz.f187),(95,Tryz.f95),(153,Tryz.f153),(129,Tryz.f129),(152,Tryz.f152),(55,Tryz.f55),(77,Tryz.f77),(139,Tryz.f139),(15,Tryz.f15),(49,Tryz.f49),(96,Tryz.f96),(50,Tryz.f50),(52,Tryz.f52),(16,Tryz.f16),(54,Tryz.f54),(9,Tryz.f9),(26,Tryz.f26),(63,Tryz.f63),(107,Tryz.f107),(108,Tryz.f108),(109,Tryz.f109),(110,Tryz.f110),(157,Tryz.f157),(175,Tryz.f175),(27,Tryz.f27),(64,Tryz.f64),(112,Tryz.f112),(158,Tryz.f158),(99,Tryz.f99),(28,Tryz.f28),(65,Tryz.f65),(114,Tryz.f114),(70,Tryz.f70),(132,Tryz.f132),(71,Tryz.f71),(17,Tryz.f17)]
def ayi:List Nat:=[5,13,82,145,51,39,53,98,154,105,78,48,81,143,97,144,41,83,92,44,86,85,91,90,43,84,146,180,182,183,205,45,93,100,101,47,94,151,174,187,95,129,152,55,77,139,49,96,50,16,54,9,107,108,109,110,157,175,112,158,99,115,114,70,132,71,33,11,17,135,7]
def ayr:List Nat:=[14,42,87,46,15,52,26,63,27,64,111,67,69,133,134]
def axI:List (Nat × List Nat):=[(5,[2,2,11,3,14,13,5,19,18,7,27,28,29,2,32,34,2,39,2]),(13,[2,4,3,6,9,2,12,13,2]),(19,[2,0,8,2]),(36,[4,7,8,15,17,18,4,25,5,30,31,37,41,45,4,47,51,52,62,66,69,80,83,84,6,92,93,6,96,97,4]),(37,[4,6,4]),(40,[6,9,14,4,17,21,24,35,19,4,40]),(56,[4,6,4]),(82,[4,5,6,13,17,19,4,10,5,4]),(145,[4,5,7,4]),(51,[2,5,4,7,14,18,20,26,28,11,4,2]),(39,[2,2,3,4,14,21,25,33,3,19,4,39,2]),(53,[2,10,16,2,3,4,30,39,46,52,55,2,62,3,35,4,73,2]),(98,[2,3,5,6,8,2]),(154,[2,3,4,5,8,9,14,15,19,20,21,25,26,28,29,30,2,12,3,35,38,39,2]),(105,[2,3,5,6,9,10,12,13,17,18,20,21,2]),(78,[2,3,5,6,2]),(48,[2,3,4,5,8,9,14,15,18,19,20,2,12,3,24,2]),(81,[2,3,2,6,8,2,9,2]),(143,[2,3,4,5,8,9,14,15,2,12,3,19,22,23,2]),(97,[2,3,4,8,9,2,6,3,12,2]),(144,[2,3,4,5,6,11,12,15,16,17,21,3,25,26,27,28,3,9,4,32,2]),(38,[6,8,11,12,16,6,17,18,7,21,22,24,28,29,30,6]),(14,[3,16,3,20,22,5,6,7,31,33,39,10,44,43,11,12,13,50,49,15,54,56,57,60,3,67,68,39,79,81,3,87,3]),(41,[2,4,6,8,3,9,10,13,14,15,2,6,20,2]),(42,[4,5,8,9,6,11,13,14,4,17,18,19,23,24,5,0]),(83,[4,5,9,10,15,16,18,21,22,20,6,7,8,28,4,30,31,5,35,34,37,4,13,5,4]),(92,[2,3,4,5,6,8,9,15,16,14,21,2,3,4,24,25,23,28,6,30,31,2,3,4,34,35,36,5,12,6,2,3,4]),(44,[4,7,9,10,13,4,14,17,18,22,23,26,4,30,29,6,34,35,4,38,39,41,4]),(86,[4,5,8,9,10,14,17,18,0,22,4]),(85,[4,5,8,9,11,14,0,16,4]),(43,[4,5,6,7,8,4,5,6]),(84,[4,5,6,8,9,7,11,13,14,16,17,18,4,5,6,22,4,5,6]),(146,[4,14,5,17,19,20,21,16,4,25,24,27,28,4,32,33,31,4,37,40,41,36,45,46,4,48,6,50,7,8,52,54,9,10,57,58,60,61,63,65,66,68,70,11,72,4,74,75,8,78,79,82,84,85,86,87,88,91,94,4,95,8,97,10,99,102,103,104,108,109,111,12,113,115,116,4,4,118,121,122,123,128,129,130,133,134,136,13,138,4,140,141,4,4]),(180,[4,5,6,4]),(182,[2,3,2]),(183,[4,12,11,5,6,16,7,8,9,18,19,23,25,26,8,21,9,30,31,33,34,35,37,4,40,10,41,42,45,8,47,48,49,8,53,54,55,56,57,8,63,10,65,66,68,69,70,71,73,75,78,79,4,4]),(205,[2,3,4,5,9,10,15,17,18,4,13,5,6,7,22,8,24,28,31,32,6,34,35,7,26,8,37,38,2,3]),(45,[2,6,10,12,4,5,15,17,18,22,10,2]),(46,[2,3,11,2,3,4,5,6,15,16,44,45,43,48,5,6,51,50,2,3,54,55,53,59,60,58,7,8,9,66,2,3,68,69,72,73,4,5,6,19,10,20,21,24,25,26,30,10,32,33,2,3,35,36,37,38,42,4,5,6,75,2,3]),(93,[2,3,5,6,9,10,13,14,16,17,21,22,25,26,29,30,33,34,37,38,41,42,45,46,48,49,53,54,56,57,2]),(100,[2,3,5,6,9,10,12,13,2]),(101,[2,3,5,6,2]),(47,[2,9,15,2,24,26,3,33,39,45,48,2,24,2]),(94,[2,3,5,6,8,2]),(151,[2,3,6,7,11,12,16,17,2]),(174,[4,6,8,10,5,11,12,13,4,8,4]),(187,[2,3,5,6,9,10,2]),(95,[4,4]),(153,[3,3]),(129,[4,5,7,4]),(152,[4,8,10,5,11,13,17,4,8,4]),(55,[2,3,15,19,3,15,30,2]),(77,[2,6,5,2,10,9,12,2,3,14,16,18,4,19,20,23,24,25,29,3,32,33,34,3,16,39,2]),(139,[2,3,6,7,11,12,2]),(15,[3,17,3,22,21,4,5,6,28,27,7,8,9,34,36,39,11,41,40,11,5,6,47,46,12,13,14,54,53,16,59,61,62,65,3,72,73,83,85,3,91,3]),(49,[4,5,6,7,10,11,14,15,19,20,18,8,9,24,26,4,5,6,27,7,28,29,31,33,34,36,37,4,5,6,40,7,42,4,5,6]),(96,[4,5,6,8,7,10,11,16,17,20,21,4,5,23,24,27,7,29,30,4,5,33,34,35,36,6,14,7,4,5]),(50,[2,3,6,7,11,0,13,16,17,18,24,25,0,29,2]),(52,[2,3,4,5,9,10,13,14,17,5,19,6,7,20,21,25,26,24,7,5,30,2,3,33,34,37,38,39,43,5,45,46,47,7,49,50,52,53,54,57,58,59,2,3,65,66,4,69,2,3]),(16,[4,10,17,4]),(54,[4,4,13,15,5,17,21,4,13,4]),(9,[2,7,2,4,11,14,16,5,6,19,21,23,24,28,2,30,31,4,14,35,2]),(26,[3,2]),(63,[5,10,13,14,5,19,20,6,23,5,26,28,7,8,30,32,35,37,42,43,51,7,70,5,5]),(107,[6,7,8,10,11,12,6]),(108,[2,3,2]),(109,[4,5,7,8,4,11,12,12,12,12,12,12,12,4,20,20,20,20,4,25,27,30,31,35,36,4,4,4]),(110,[2,11,16,21,26,31,2]),(157,[2,2]),(175,[6,10,7,8,12,13,9,17,19,20,21,23,24,25,31,32,33,7,29,9,15,8,36,6]),(27,[4,5,6,4,2000007,6000007]),(64,[8,12,8,14,16,17,8,19,21,22,3,25,26,3,30,32,3,10,34,35,37,38,11,40,43,44,45,46,50,51,52,0,56,10,59,60,63,8]),(112,[4,7,10,4,13,16,17,4,5,20,21,6,23,25,4,26,5,28,29,30,0]),(158,[2,3,7,2,9,2]),(99,[4,5,6,4]),(28,[4,15,14,5,6,7,20,22,23,4,25,26,28,29,4,31,34,38,33,40,8,9,42,4,44,45,4,48,50,51,4,53,56,55,11,60,4,62,4,70,71,69,12,13,75,4,77,4]),(65,[4,5,6,8,4,10,12,16,18,21,23,4,25,27,4,35,37,4,4,4]),(114,[4,5,6,8,9,12,14,18,5,20,0,22,1,24,4]),(70,[2,2,3,4,10,12,3,4,48,50,54,2]),(132,[2,2,2]),(71,[4,5,17,18,21,20,7,27,4,5,28,31,30,9,10,37,38,39,40,42,4,5,48,51,50,12,57,4,5,58,61,60,13,14,66,65,15,16,70,71,72,73,4,5,4,5]),(17,[2,2,2])]
def mvB:List (Nat × List Nat):=[(5,[0]),(13,[0]),(19,[0])]
def ark:List (Nat × Nat):=[(204,0),(181,2),(159,1)]
noncomputable def arn:List (Nat × (List Value->Heap->Option (Value × Heap))):=[]
noncomputable def aq8:List (Nat × (List V->VH->Option (V × VH))):=[]
noncomputable def base:abR where
 ng:=1
 tab:=axU
 fn:=Go.AM.look fnB
 D7:=ayF ayP
 kind:=aro ayi ayr ark
 ext:=anT
 aax:=fun f=>Go.AM.look arn f
def aqh:List (List UInt8):=[[74,97,110],[70,101,98],[77,97,114],[65,112,114],[77,97,121],[74,117,110],[74,117,108],[65,117,103],[83,101,112],[79,99,116],[78,111,118],[68,101,99]]
def y9:Nat->Option (List V):=akO 0 aqh
def giB:Nat->Bool:=fun _=>false
noncomputable def vb:V3 where
 b:=base
 G5:=y9
 gi:=giB
 y4:=asl axI
 mv:=asl mvB
 aax:=fun f=>Go.AM.look aq8 f
noncomputable def cv:u5:=N6 vb
noncomputable def pc:FuncId->List V->Option V:=aac cv
noncomputable def qc:FuncId->List V->Option V:=S9 cv
noncomputable def pcg:FuncId->VH->List V->Option (V × VH):=ab6 cv
set_option maxRecDepth 100000 in
theorem fns:ar2 Tryz.prog fnB:=by
 unfold fnB
 refine ⟨⟨rfl,by kernel_rfl⟩,⟨rfl,by kernel_rfl⟩,⟨rfl,by kernel_rfl⟩,⟨rfl,by kernel_rfl⟩,⟨rfl,by kernel_rfl⟩,⟨rfl,by kernel_rfl⟩,⟨rfl,by kernel_rfl⟩,⟨rfl,by kernel_rfl⟩,⟨rfl,by kernel_rfl⟩,⟨rfl,by kernel_rfl⟩,⟨rfl,by kernel_rfl⟩,⟨rfl,by kernel_rfl⟩,⟨rfl,by kernel_rfl⟩,⟨rfl,by kernel_rfl⟩,⟨rfl,by kernel_rfl⟩,⟨rfl,by kernel_rfl⟩,⟨rfl,by kernel_rfl⟩,⟨rfl,by kernel_rfl⟩,⟨rfl,by kernel_rfl⟩,⟨rfl,by kernel_rfl⟩,⟨rfl,by kernel_rfl⟩,⟨rfl,by kernel_rfl⟩,⟨rfl,by kernel_rfl⟩,⟨rfl,by kernel_rfl⟩,⟨rfl,by kernel_rfl⟩,⟨rfl,by kernel_rfl⟩,⟨rfl,by kernel_rfl⟩,⟨rfl,by kernel_rfl⟩,⟨rfl,by kernel_rfl⟩,⟨rfl,by kernel_rfl⟩,⟨rfl,by kernel_rfl⟩,⟨rfl,by kernel_rfl⟩,⟨rfl,by kernel_rfl⟩,⟨rfl,by kernel_rfl⟩,⟨rfl,by kernel_rfl⟩,⟨rfl,by kernel_rfl⟩,⟨rfl,by kernel_rfl⟩,⟨rfl,by kernel_rfl⟩,⟨rfl,by kernel_rfl⟩,⟨rfl,by kernel_rfl⟩,⟨rfl,by kernel_rfl⟩,⟨rfl,by kernel_rfl⟩,⟨rfl,by kernel_rfl⟩,⟨rfl,by kernel_rfl⟩,⟨rfl,by kernel_rfl⟩,⟨rfl,by kernel_rfl⟩,⟨rfl,by kernel_rfl⟩,⟨rfl,by kernel_rfl⟩,⟨rfl,by kernel_rfl⟩,⟨rfl,by kernel_rfl⟩,⟨rfl,by kernel_rfl⟩,⟨rfl,by kernel_rfl⟩,⟨rfl,by kernel_rfl⟩,⟨rfl,by kernel_rfl⟩,⟨rfl,by kernel_rfl⟩,⟨rfl,by kernel_rfl⟩,⟨rfl,by kernel_rfl⟩,⟨rfl,by kernel_rfl⟩,⟨rfl,by kernel_rfl⟩,⟨rfl,by kernel_rfl⟩,⟨rfl,by kernel_rfl⟩,⟨rfl,by kernel_rfl⟩,⟨rfl,by kernel_rfl⟩,⟨rfl,by kernel_rfl⟩,⟨rfl,by kernel_rfl⟩,⟨rfl,by kernel_rfl⟩,⟨rfl,by kernel_rfl⟩,⟨rfl,by kernel_rfl⟩,⟨rfl,by kernel_rfl⟩,⟨rfl,by kernel_rfl⟩,⟨rfl,by kernel_rfl⟩,⟨rfl,by kernel_rfl⟩,⟨rfl,by kernel_rfl⟩,⟨rfl,by kernel_rfl⟩,⟨rfl,by kernel_rfl⟩,⟨rfl,by kernel_rfl⟩,⟨rfl,by kernel_rfl⟩,⟨rfl,by kernel_rfl⟩,⟨rfl,by kernel_rfl⟩,⟨rfl,by kernel_rfl⟩,⟨rfl,by kernel_rfl⟩,⟨rfl,by kernel_rfl⟩,trivial⟩
theorem auj:anJ Tryz.prog axU=true:=by kernel_rfl
theorem exts:ahY Tryz.prog ark:=by
 unfold ark
 exact ⟨fun args w=>Go.run_callFunc_extern (fn:=Tryz.f204) (e:=Extern.BytealgIndexByte.indexByte) (by kernel_rfl) (by kernel_rfl) (by kernel_rfl) (by kernel_rfl) (by kernel_rfl) args w,trivial,fun args w=>Go.run_callFunc_extern (fn:=Tryz.f159) (e:=Extern.BytealgCount.count) (by kernel_rfl) (by kernel_rfl) (by kernel_rfl) (by kernel_rfl) (by kernel_rfl) args w,trivial⟩
theorem asS:amb Tryz.prog 1 arn:=trivial
theorem awg:af7 Tryz.prog base where
 tab:=alf auj
 fn:=as6 fns
 ext:=axP exts
 aax:=an8 (P:=Tryz.prog) (ng:=1) asS
 mixed:=by kernel_rfl
theorem asT:ajQ vb aq8:=trivial
theorem ayz:aiL vb where
 zero:=auH (alf auj)
 sl:=axN (alf auj)
 gd:=fun g cs h=>by exact arH h
 pos:=aqz (by kernel_rfl)
 asb:=fun f h=>am6 (f:=f) (l:=aq8) (l':=arn) rfl h
 aax:=am1 asT
end Go.Proofs.YtmokcpfbeggigaaGreatDoor.Q
