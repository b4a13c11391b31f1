/- The program's functions, types and marks, as the machines take them. -/
import Derived.Test.YtaapfgpeeghmeaaGreatDoorProg
import Derived.Test.YtaapfgpeeghmeaaGreatDoorFnScriptMailK4
import Derived.KernelRfl
namespace Go.Proofs.YtaapfgpeeghmeaaGreatDoor.Q
open Go Go.AM Go.Proofs Go.Shelf
set_option linter.unusedVariables false
def ab4:Nat:=4
def abI:Nat:=9
def acN:Nat:=26
def acK:Nat:=28
def N7:Nat:=57
def N4:Nat:=56
def abv:Nat:=58
def ab5:Nat:=27
def afh:Nat:=55
def Z6:Nat:=10
def O9:Nat:=29
def abg:Nat:=59
def adK:Nat:=98
def aaw:Nat:=78
def aau:Nat:=48
def X3:Nat:=71
def N3:Nat:=106
def P6:Nat:=150
def afc:Nat:=117
def V3:Nat:=24
def aaM:Nat:=47
def alg:Nat:=68
def aea:Nat:=103
def aeB:Nat:=69
def aew:Nat:=70
def C0:Nat:=31
def N8:Nat:=61
def abr:Nat:=163
def adT:Nat:=164
def aci:Nat:=123
def abd:Nat:=172
def aeD:Nat:=199
def aa5:Nat:=124
def V4:Nat:=118
def aa9:Nat:=165
def aeV:Nat:=166
def aby:Nat:=195
def aam:Nat:=99
def aez:Nat:=100
def aa2:Nat:=147
def aab:Nat:=33
def afr:Nat:=30
def T2:Nat:=60
def G6:Nat:=101
def aaN:Nat:=32
def abA:Nat:=11
def adR:Nat:=34
def aeo:Nat:=62
def adH:Nat:=102
def agw:Nat:=148
def acv:Nat:=184
def adp:Nat:=208
def abq:Nat:=185
def ab7:Nat:=186
def afM:Nat:=209
def O6:Nat:=35
def ae8:Nat:=210
def S8:Nat:=219
def adS:Nat:=220
def afT:Nat:=224
def acq:Nat:=221
def aep:Nat:=211
def Y6:Nat:=12
def adQ:Nat:=13
def ac3:Nat:=36
def J8:Nat:=63
def Z4:Nat:=8
def acP:Nat:=23
def adD:Nat:=46
def M6:Nat:=39
def adJ:Nat:=41
def aav:Nat:=40
def O8:Nat:=15
def ach:Nat:=42
def X6:Nat:=43
def O4:Nat:=25
def aeP:Nat:=49
def aac:Nat:=50
def acR:Nat:=74
def acj:Nat:=110
def aa1:Nat:=116
def J1:Nat:=161
def K0:Nat:=194
def aad:Nat:=162
def acI:Nat:=111
def aaC:Nat:=154
def E6:Nat:=156
def Z5:Nat:=121
def aaP:Nat:=112
def aaT:Nat:=158
def abR:Nat:=192
def O5:Nat:=213
def Z2:Nat:=159
def Y7:Nat:=132
def adx:Nat:=171
def abK:Nat:=193
def aey:Nat:=86
def acr:Nat:=135
def P7:Nat:=173
def Q4:Nat:=200
def ack:Nat:=214
def P9:Nat:=223
def adV:Nat:=75
def O3:Nat:=72
def T9:Nat:=107
def aa8:Nat:=6
def adU:Nat:=16
def B5:Nat:=17
def Q0:Nat:=155
def aba:Nat:=109
def O0:Nat:=157
def R7:Nat:=191
def aaL:Nat:=108
def X5:Nat:=77
def T7:Nat:=80
def V9:Nat:=76
def D3:Nat:=113
def K7:Nat:=114
def abk:Nat:=115
def aag:Nat:=160
def ang:Nat:=73
def abU:Nat:=51
def M8:Nat:=79
def aaa:Nat:=52
def L1:Nat:=81
def L5:Nat:=122
def ani:Nat:=53
def aog:Nat:=54
noncomputable def aD6:List (Nat × TI):=[
 (22,⟨.slice 5 1 1 [(.int .u8 0)],false,1,[(.slice none 0 0)]⟩),
 (3,⟨.int .i64,false,1,[(.int .i64 0)]⟩),
 (31,⟨.struct [(0,1,false),(1,1,false),(2,1,false)],true,3,[(.string (bs [])),(.slice none 0 0),(.slice none 0 0)]⟩),
 (29,⟨.slice 9 1 16 [(.string (bs []))],false,1,[(.slice none 0 0)]⟩),
 (4,⟨.bool,false,1,[(.bool false)]⟩),
 (9,⟨.str,false,1,[(.string (bs []))]⟩),
 (51,⟨.other,false,1,[(.pointer none)]⟩),
 (80,⟨.struct [(0,1,false),(1,1,false)],true,2,[(.slice none 0 0),(.int .i64 0)]⟩),
 (85,⟨.slice 3 1 8 [(.int .i64 0)],false,1,[(.slice none 0 0)]⟩),
 (5,⟨.int .u8,false,1,[(.int .u8 0)]⟩),
 (57,⟨.other,false,1,[.nilFunc]⟩),
 (189,⟨.int .u32,false,1,[(.int .u32 0)]⟩),
 (21,⟨.int .i32,false,1,[(.int .i32 0)]⟩),
 (185,⟨.arr 256 1,true,256,[(.int .u8 0),(.int .u8 0),(.int .u8 0),(.int .u8 0),(.int .u8 0),(.int .u8 0),(.int .u8 0),(.int .u8 0),(.int .u8 0),(.int .u8 0),(.int .u8 0),(.int .u8 0),(.int .u8 0),(.int .u8 0),(.int .u8 0),(.int .u8 0),(.int .u8 0),(.int .u8 0),(.int .u8 0),(.int .u8 0),(.int .u8 0),(.int .u8 0),(.int .u8 0),(.int .u8 0),(.int .u8 0),(.int .u8 0),(.int .u8 0),(.int .u8 0),(.int .u8 0),(.int .u8 0),(.int .u8 0),(.int .u8 0),(.int .u8 0),(.int .u8 0),(.int .u8 0),(.int .u8 0),(.int .u8 0),(.int .u8 0),(.int .u8 0),(.int .u8 0),(.int .u8 0),(.int .u8 0),(.int .u8 0),(.int .u8 0),(.int .u8 0),(.int .u8 0),(.int .u8 0),(.int .u8 0),(.int .u8 0),(.int .u8 0),(.int .u8 0),(.int .u8 0),(.int .u8 0),(.int .u8 0),(.int .u8 0),(.int .u8 0),(.int .u8 0),(.int .u8 0),(.int .u8 0),(.int .u8 0),(.int .u8 0),(.int .u8 0),(.int .u8 0),(.int .u8 0),(.int .u8 0),(.int .u8 0),(.int .u8 0),(.int .u8 0),(.int .u8 0),(.int .u8 0),(.int .u8 0),(.int .u8 0),(.int .u8 0),(.int .u8 0),(.int .u8 0),(.int .u8 0),(.int .u8 0),(.int .u8 0),(.int .u8 0),(.int .u8 0),(.int .u8 0),(.int .u8 0),(.int .u8 0),(.int .u8 0),(.int .u8 0),(.int .u8 0),(.int .u8 0),(.int .u8 0),(.int .u8 0),(.int .u8 0),(.int .u8 0),(.int .u8 0),(.int .u8 0),(.int .u8 0),(.int .u8 0),(.int .u8 0),(.int .u8 0),(.int .u8 0),(.int .u8 0),(.int .u8 0),(.int .u8 0),(.int .u8 0),(.int .u8 0),(.int .u8 0),(.int .u8 0),(.int .u8 0),(.int .u8 0),(.int .u8 0),(.int .u8 0),(.int .u8 0),(.int .u8 0),(.int .u8 0),(.int .u8 0),(.int .u8 0),(.int .u8 0),(.int .u8 0),(.int .u8 0),(.int .u8 0),(.int .u8 0),(.int .u8 0),(.int .u8 0),(.int .u8 0),(.int .u8 0),(.int .u8 0),(.int .u8 0),(.int .u8 0),(.int .u8 0),(.int .u8 0),(.int .u8 0),(.int .u8 0),(.int .u8 0),(.int .u8 0),(.int .u8 0),(.int .u8 0),(.int .u8 0),(.int .u8 0),(.int .u8 0),(.int .u8 0),(.int .u8 0),(.int .u8 0),(.int .u8 0),(.int .u8 0),(.int .u8 0),(.int .u8 0),(.int .u8 0),(.int .u8 0),(.int .u8 0),(.int .u8 0),(.int .u8 0),(.int .u8 0),(.int .u8 0),(.int .u8 0),(.int .u8 0),(.int .u8 0),(.int .u8 0),(.int .u8 0),(.int .u8 0),(.int .u8 0),(.int .u8 0),(.int .u8 0),(.int .u8 0),(.int .u8 0),(.int .u8 0),(.int .u8 0),(.int .u8 0),(.int .u8 0),(.int .u8 0),(.int .u8 0),(.int .u8 0),(.int .u8 0),(.int .u8 0),(.int .u8 0),(.int .u8 0),(.int .u8 0),(.int .u8 0),(.int .u8 0),(.int .u8 0),(.int .u8 0),(.int .u8 0),(.int .u8 0),(.int .u8 0),(.int .u8 0),(.int .u8 0),(.int .u8 0),(.int .u8 0),(.int .u8 0),(.int .u8 0),(.int .u8 0),(.int .u8 0),(.int .u8 0),(.int .u8 0),(.int .u8 0),(.int .u8 0),(.int .u8 0),(.int .u8 0),(.int .u8 0),(.int .u8 0),(.int .u8 0),(.int .u8 0),(.int .u8 0),(.int .u8 0),(.int .u8 0),(.int .u8 0),(.int .u8 0),(.int .u8 0),(.int .u8 0),(.int .u8 0),(.int .u8 0),(.int .u8 0),(.int .u8 0),(.int .u8 0),(.int .u8 0),(.int .u8 0),(.int .u8 0),(.int .u8 0),(.int .u8 0),(.int .u8 0),(.int .u8 0),(.int .u8 0),(.int .u8 0),(.int .u8 0),(.int .u8 0),(.int .u8 0),(.int .u8 0),(.int .u8 0),(.int .u8 0),(.int .u8 0),(.int .u8 0),(.int .u8 0),(.int .u8 0),(.int .u8 0),(.int .u8 0),(.int .u8 0),(.int .u8 0),(.int .u8 0),(.int .u8 0),(.int .u8 0),(.int .u8 0),(.int .u8 0),(.int .u8 0),(.int .u8 0),(.int .u8 0),(.int .u8 0),(.int .u8 0),(.int .u8 0),(.int .u8 0),(.int .u8 0),(.int .u8 0),(.int .u8 0),(.int .u8 0),(.int .u8 0),(.int .u8 0),(.int .u8 0),(.int .u8 0),(.int .u8 0),(.int .u8 0)]⟩),
 (188,⟨.arr 16 2,true,32,[(.int .u8 0),(.int .u8 0),(.int .u8 0),(.int .u8 0),(.int .u8 0),(.int .u8 0),(.int .u8 0),(.int .u8 0),(.int .u8 0),(.int .u8 0),(.int .u8 0),(.int .u8 0),(.int .u8 0),(.int .u8 0),(.int .u8 0),(.int .u8 0),(.int .u8 0),(.int .u8 0),(.int .u8 0),(.int .u8 0),(.int .u8 0),(.int .u8 0),(.int .u8 0),(.int .u8 0),(.int .u8 0),(.int .u8 0),(.int .u8 0),(.int .u8 0),(.int .u8 0),(.int .u8 0),(.int .u8 0),(.int .u8 0)]⟩),
 (187,⟨.struct [(0,1,false),(1,1,false)],true,2,[(.int .u8 0),(.int .u8 0)]⟩),
 (145,⟨.other,false,1,[.nilFunc]⟩),
 (111,⟨.struct [(0,1,false),(1,1,false),(2,1,false)],true,3,[(.string (bs [])),(.string (bs [])),(.string (bs []))]⟩),
 (48,⟨.struct [(0,1,false),(1,6,true),(7,7,true)],true,14,[(.slice none 0 0),(.int .i64 0),(.string (bs [])),(.string (bs [])),(.slice none 0 0),(.slice none 0 0),(.slice none 0 0),(.int .i64 0),(.int .i64 0),(.int .i64 0),(.int .i64 0),(.int .i64 0),(.int .i64 0),(.int .i64 0)]⟩),
 (24,⟨.struct [(0,1,false),(1,1,false),(2,1,false),(3,1,false),(4,1,false),(5,1,false),(6,1,false)],true,7,[(.int .i64 0),(.int .i64 0),(.int .i64 0),(.int .i64 0),(.int .i64 0),(.int .i64 0),(.int .i64 0)]⟩),
 (71,⟨.other,false,1,[(.pointer none)]⟩),
 (43,⟨.slice 99 2 40 [(.string (bs [])),(.slice none 0 0)],false,1,[(.slice none 0 0)]⟩),
 (46,⟨.struct [(0,1,false),(1,1,false),(2,3,true),(5,1,false)],true,6,[(.int .i64 0),(.string (bs [])),(.string (bs [])),(.slice none 0 0),(.slice none 0 0),(.slice none 0 0)]⟩),
 (44,⟨.slice 31 3 64 [(.string (bs [])),(.slice none 0 0),(.slice none 0 0)],false,1,[(.slice none 0 0)]⟩),
 (55,⟨.other,false,1,[.nilFunc]⟩),
 (166,⟨.other,false,1,[(.pointer none)]⟩),
 (40,⟨.arr 12 1,true,12,[(.string (bs [])),(.string (bs [])),(.string (bs [])),(.string (bs [])),(.string (bs [])),(.string (bs [])),(.string (bs [])),(.string (bs [])),(.string (bs [])),(.string (bs [])),(.string (bs [])),(.string (bs []))]⟩),
 (65,⟨.arr 7 1,true,7,[(.string (bs [])),(.string (bs [])),(.string (bs [])),(.string (bs [])),(.string (bs [])),(.string (bs [])),(.string (bs []))]⟩),
 (99,⟨.struct [(0,1,false),(1,1,false)],true,2,[(.string (bs [])),(.slice none 0 0)]⟩),
 (138,⟨.other,false,1,[.nilFunc]⟩),
 (162,⟨.int .u64,false,1,[(.int .u64 0)]⟩)]
noncomputable def aFx:List (Nat × Ann):=[
 (4,{ loc:=[3],loops:=[(19,⟨⟨[12,13,14],[(3,(3,0))],[(3,3)]⟩,[(.exit 2,⟨[12,13],[],[]⟩)]⟩),(13,⟨⟨[4,10,11],[(3,(3,0))],[(3,3)]⟩,[(.exit 0,⟨[10],[(3,(3,0))],[(3,3)]⟩)]⟩)],l3:=[(9,11,[(.ret,⟨[2],[],[]⟩),(.normal,⟨[4],[(3,(3,0))],[(3,3)]⟩)]),(6,8,[(.ret,⟨[2],[],[]⟩),(.normal,⟨[4],[(3,(3,0))],[(3,3)]⟩)])],full:=[],n7:=false }),
 (9,{ loc:=[2],loops:=[],l3:=[],full:=[],n7:=false }),
 (26,{ loc:=[],loops:=[],l3:=[(1,3,[(.normal,⟨[0],[],[]⟩)])],full:=[],n7:=false }),
 (28,{ loc:=[2,3],loops:=[(7,⟨⟨[0,5],[(2,(2,0)),(3,(3,0))],[(2,3),(3,3)]⟩,[(.exit 2,⟨[],[(2,(2,0)),(3,(3,0))],[(2,3),(3,3)]⟩)]⟩),(3,⟨⟨[0,4],[(2,(2,0)),(3,(3,0))],[(2,3),(3,3)]⟩,[(.exit 0,⟨[0],[(2,(2,0)),(3,(3,0))],[(2,3),(3,3)]⟩)]⟩)],l3:=[],full:=[],n7:=false }),
 (57,{ loc:=[],loops:=[],l3:=[],full:=[],n7:=false }),
 (56,{ loc:=[],loops:=[],l3:=[(2,4,[(.ret,⟨[4],[],[]⟩),(.normal,⟨[0,1],[],[]⟩)])],full:=[],n7:=false }),
 (58,{ loc:=[],loops:=[],l3:=[],full:=[],n7:=false }),
 (27,{ loc:=[3,4,5],loops:=[],l3:=[],full:=[],n7:=false }),
 (55,{ loc:=[1,2],loops:=[],l3:=[],full:=[8,12],n7:=false }),
 (10,{ loc:=[1],loops:=[(11,⟨⟨[4,35,36,37],[],[]⟩,[(.exit 2,⟨[4],[],[]⟩)]⟩),(5,⟨⟨[4,18,19,20],[(1,(1,0))],[(1,3)]⟩,[(.exit 0,⟨[4],[(1,(1,0))],[(1,3)]⟩)]⟩)],l3:=[],full:=[],n7:=false }),
 (29,{ loc:=[1],loops:=[],l3:=[],full:=[],n7:=false }),
 (59,{ loc:=[3],loops:=[],l3:=[],full:=[],n7:=false }),
 (98,{ loc:=[],loops:=[],l3:=[],full:=[],n7:=false }),
 (78,{ loc:=[],loops:=[],l3:=[],full:=[],n7:=false }),
 (48,{ loc:=[],loops:=[],l3:=[],full:=[],n7:=false }),
 (71,{ loc:=[],loops:=[],l3:=[],full:=[],n7:=false }),
 (106,{ loc:=[],loops:=[(15,⟨⟨[0,1,5,6,7,8,9,10],[],[]⟩,[(.exit 1,⟨[],[],[]⟩),(.ret,⟨[4],[],[]⟩)]⟩)],l3:=[(21,23,[(.ret,⟨[4],[],[]⟩),(.normal,⟨[0,1,5,6,7,8,9,10],[],[]⟩)]),(16,21,[(.ret,⟨[4],[],[]⟩),(.normal,⟨[0,1,5,6,7,8,9,10],[],[]⟩)]),(2,10,[(.ret,⟨[4],[],[]⟩),(.normal,⟨[0,1,5],[],[]⟩)])],full:=[],n7:=false }),
 (150,{ loc:=[],loops:=[],l3:=[],full:=[],n7:=false }),
 (152,{ loc:=[],loops:=[],l3:=[],full:=[],n7:=false }),
 (153,{ loc:=[],loops:=[(11,⟨⟨[0,1,5,6,7,8,10],[],[]⟩,[(.exit 2,⟨[],[],[]⟩),(.ret,⟨[4],[],[]⟩)]⟩),(5,⟨⟨[0,1,5,6,7,8,9],[],[]⟩,[(.exit 0,⟨[0,1,5,6,7,8],[],[]⟩)]⟩)],l3:=[(8,10,[(.ret,⟨[4],[],[]⟩),(.normal,⟨[0,1,5,6,7,8],[],[]⟩)])],full:=[],n7:=false }),
 (188,{ loc:=[],loops:=[(8,⟨⟨[4,6,7,8],[],[]⟩,[(.exit 2,⟨[4,6],[],[]⟩)]⟩),(3,⟨⟨[0,4,5],[],[]⟩,[(.exit 0,⟨[0,4],[],[]⟩)]⟩)],l3:=[(10,9,[(.normal,⟨[4,6,7,8],[],[]⟩)]),(10,12,[(.normal,⟨[4,6,7,8],[],[]⟩)])],full:=[],n7:=false }),
 (117,{ loc:=[],loops:=[],l3:=[],full:=[],n7:=false }),
 (24,{ loc:=[],loops:=[],l3:=[],full:=[],n7:=false }),
 (47,{ loc:=[],loops:=[(11,⟨⟨[0,1,2,3,9,10],[],[]⟩,[(.exit 0,⟨[0,9,10],[],[]⟩)]⟩)],l3:=[(5,7,[(.normal,⟨[0,1,2,3],[],[]⟩)])],full:=[],n7:=false }),
 (68,{ loc:=[],loops:=[(6,⟨⟨[0,1,6,7],[],[]⟩,[(.exit 0,⟨[0,1,6],[],[]⟩)]⟩)],l3:=[(2,4,[(.normal,⟨[0,1],[],[]⟩)])],full:=[],n7:=false }),
 (103,{ loc:=[],loops:=[],l3:=[],full:=[],n7:=false }),
 (104,{ loc:=[],loops:=[],l3:=[],full:=[],n7:=false }),
 (149,{ loc:=[9],loops:=[],l3:=[],full:=[],n7:=false }),
 (69,{ loc:=[],loops:=[(6,⟨⟨[0,1,5],[],[]⟩,[(.ret,⟨[4],[],[]⟩)]⟩)],l3:=[],full:=[],n7:=false }),
 (70,{ loc:=[],loops:=[],l3:=[],full:=[],n7:=false }),
 (31,{ loc:=[],loops:=[],l3:=[],full:=[],n7:=false }),
 (61,{ loc:=[],loops:=[(2,⟨⟨[0,1,7,8],[],[]⟩,[(.exit 0,⟨[],[],[]⟩),(.ret,⟨[4],[],[]⟩)]⟩)],l3:=[],full:=[],n7:=true }),
 (163,{ loc:=[],loops:=[],l3:=[],full:=[],n7:=false }),
 (164,{ loc:=[],loops:=[],l3:=[],full:=[],n7:=false }),
 (123,{ loc:=[],loops:=[(2,⟨⟨[0,1,7,8],[],[]⟩,[(.exit 0,⟨[],[],[]⟩),(.ret,⟨[4],[],[]⟩)]⟩)],l3:=[],full:=[],n7:=true }),
 (172,{ loc:=[],loops:=[],l3:=[],full:=[],n7:=false }),
 (199,{ loc:=[],loops:=[],l3:=[],full:=[],n7:=false }),
 (124,{ loc:=[],loops:=[],l3:=[],full:=[],n7:=false }),
 (118,{ loc:=[],loops:=[],l3:=[],full:=[],n7:=false }),
 (165,{ loc:=[],loops:=[],l3:=[],full:=[],n7:=false }),
 (166,{ loc:=[],loops:=[],l3:=[],full:=[],n7:=false }),
 (195,{ loc:=[],loops:=[],l3:=[],full:=[],n7:=false }),
 (99,{ loc:=[],loops:=[],l3:=[],full:=[],n7:=false }),
 (100,{ loc:=[],loops:=[],l3:=[],full:=[],n7:=false }),
 (147,{ loc:=[],loops:=[],l3:=[],full:=[],n7:=false }),
 (33,{ loc:=[],loops:=[(2,⟨⟨[0,5,6],[],[]⟩,[(.exit 0,⟨[0],[],[]⟩),(.ret,⟨[2],[],[]⟩)]⟩)],l3:=[],full:=[],n7:=false }),
 (30,{ loc:=[],loops:=[],l3:=[],full:=[],n7:=false }),
 (60,{ loc:=[],loops:=[],l3:=[],full:=[],n7:=false }),
 (101,{ loc:=[],loops:=[],l3:=[],full:=[],n7:=false }),
 (32,{ loc:=[],loops:=[],l3:=[],full:=[],n7:=false }),
 (11,{ loc:=[1],loops:=[(10,⟨⟨[4,6],[(1,(1,0))],[(1,3)]⟩,[(.exit 2,⟨[4],[],[]⟩),(.ret,⟨[2,3],[],[]⟩)]⟩),(5,⟨⟨[4,5],[(1,(1,0))],[(1,3)]⟩,[(.exit 0,⟨[4],[(1,(1,0))],[(1,3)]⟩)]⟩)],l3:=[(12,11,[(.ret,⟨[2,3],[],[]⟩),(.normal,⟨[4,6],[(1,(1,0))],[(1,3)]⟩)]),(13,15,[(.normal,⟨[4,6,7],[(1,(1,0))],[(1,3)]⟩)])],full:=[],n7:=false }),
 (34,{ loc:=[1],loops:=[],l3:=[],full:=[],n7:=false }),
 (62,{ loc:=[1],loops:=[(9,⟨⟨[4],[(1,(1,0))],[(1,3)]⟩,[(.exit 2,⟨[],[],[]⟩),(.ret,⟨[2],[],[]⟩)]⟩),(4,⟨⟨[3],[(1,(1,0))],[(1,3)]⟩,[(.exit 0,⟨[],[(1,(1,0))],[(1,3)]⟩),(.ret,⟨[2],[],[]⟩)]⟩)],l3:=[(1,3,[(.ret,⟨[2],[],[]⟩),(.normal,⟨[],[(1,(1,0))],[(1,3)]⟩)])],full:=[],n7:=false }),
 (102,{ loc:=[3],loops:=[],l3:=[],full:=[],n7:=false }),
 (148,{ loc:=[2,7],loops:=[],l3:=[],full:=[],n7:=false }),
 (184,{ loc:=[],loops:=[(2,⟨⟨[0,1,7],[],[]⟩,[(.exit 0,⟨[0],[],[]⟩),(.ret,⟨[4,5,6],[],[]⟩)]⟩)],l3:=[],full:=[],n7:=false }),
 (208,{ loc:=[],loops:=[(3,⟨⟨[0,6,7],[],[]⟩,[(.exit 0,⟨[],[],[]⟩),(.ret,⟨[4,5],[],[]⟩)]⟩)],l3:=[(5,4,[(.ret,⟨[4,5],[],[]⟩),(.normal,⟨[0,6,7],[],[]⟩)]),(7,11,[(.ret,⟨[4,5],[],[]⟩),(.normal,⟨[0,6,7],[],[]⟩)])],full:=[],n7:=false }),
 (185,{ loc:=[],loops:=[(3,⟨⟨[3,4],[],[]⟩,[(.exit 0,⟨[3],[],[]⟩)]⟩)],l3:=[(5,4,[(.normal,⟨[3,4],[],[]⟩)])],full:=[],n7:=false }),
 (186,{ loc:=[1],loops:=[],l3:=[],full:=[],n7:=false }),
 (209,{ loc:=[],loops:=[],l3:=[],full:=[],n7:=false }),
 (35,{ loc:=[],loops:=[(2,⟨⟨[0,3],[],[]⟩,[(.exit 0,⟨[0],[],[]⟩),(.ret,⟨[2],[],[]⟩)]⟩)],l3:=[(4,3,[(.ret,⟨[2],[],[]⟩),(.normal,⟨[0,3],[],[]⟩)]),(2,4,[(.normal,⟨[0,3],[],[]⟩),(.exit 0,⟨[0],[],[]⟩)])],full:=[],n7:=false }),
 (210,{ loc:=[],loops:=[(3,⟨⟨[0,3,4],[],[]⟩,[(.exit 0,⟨[0],[],[]⟩),(.ret,⟨[2],[],[]⟩)]⟩)],l3:=[],full:=[],n7:=false }),
 (219,{ loc:=[],loops:=[(4,⟨⟨[0,1,5,6,7],[],[]⟩,[(.exit 0,⟨[0,5,6],[],[]⟩)]⟩)],l3:=[(6,5,[(.normal,⟨[0,1,5,6,7],[],[]⟩)])],full:=[],n7:=false }),
 (220,{ loc:=[],loops:=[(2,⟨⟨[0,3],[],[]⟩,[(.exit 0,⟨[0],[],[]⟩),(.ret,⟨[2],[],[]⟩)]⟩)],l3:=[(2,4,[(.normal,⟨[0,3],[],[]⟩),(.exit 0,⟨[0],[],[]⟩)])],full:=[],n7:=false }),
 (224,{ loc:=[],loops:=[(2,⟨⟨[0,3],[],[]⟩,[(.exit 0,⟨[0],[],[]⟩),(.ret,⟨[2],[],[]⟩)]⟩)],l3:=[],full:=[],n7:=false }),
 (221,{ loc:=[],loops:=[],l3:=[],full:=[],n7:=false }),
 (211,{ loc:=[],loops:=[(3,⟨⟨[0,3,4],[],[]⟩,[(.exit 0,⟨[0],[],[]⟩),(.ret,⟨[2],[],[]⟩)]⟩),(9,⟨⟨[0,3,4,5,6],[],[]⟩,[(.exit 2,⟨[0,3,4],[],[]⟩),(.ret,⟨[2],[],[]⟩)]⟩)],l3:=[(5,4,[(.ret,⟨[2],[],[]⟩),(.normal,⟨[0,3,4],[],[]⟩)]),(11,10,[(.ret,⟨[2],[],[]⟩),(.normal,⟨[0,3,4,5,6],[],[]⟩)]),(6,8,[(.ret,⟨[2],[],[]⟩),(.normal,⟨[0,3,4,5],[],[]⟩)])],full:=[],n7:=false }),
 (12,{ loc:=[],loops:=[(4,⟨⟨[0,1,5],[],[]⟩,[(.exit 0,⟨[],[],[]⟩),(.ret,⟨[4],[],[]⟩)]⟩)],l3:=[],full:=[],n7:=false }),
 (13,{ loc:=[1],loops:=[],l3:=[],full:=[],n7:=false }),
 (36,{ loc:=[1],loops:=[(3,⟨⟨[3,7,8,9],[],[]⟩,[(.exit 0,⟨[3],[],[]⟩)]⟩)],l3:=[],full:=[],n7:=false }),
 (63,{ loc:=[],loops:=[(3,⟨⟨[3,8,9,10],[],[]⟩,[(.exit 0,⟨[3],[],[]⟩)]⟩)],l3:=[],full:=[],n7:=false }),
 (8,{ loc:=[],loops:=[(5,⟨⟨[3,4,12,13,14],[],[]⟩,[(.exit 0,⟨[4],[],[]⟩),(.ret,⟨[2],[],[]⟩)]⟩)],l3:=[(8,10,[(.ret,⟨[2],[],[]⟩),(.normal,⟨[3,4,6,12,13,14],[],[]⟩)])],full:=[],n7:=false }),
 (23,{ loc:=[0,1],loops:=[],l3:=[],full:=[],n7:=false }),
 (46,{ loc:=[4,9],loops:=[(8,⟨⟨[7],[(4,(4,0)),(9,(9,0))],[(4,7),(9,7)]⟩,[(.exit 0,⟨[7],[(4,(4,0)),(9,(9,0))],[(4,7),(9,7)]⟩)]⟩)],l3:=[(8,9,[(.normal,⟨[7],[(4,(4,0)),(9,(9,0))],[(4,7),(9,7)]⟩),(.exit 0,⟨[7],[(4,(4,0)),(9,(9,0))],[(4,7),(9,7)]⟩)]),(1,3,[(.ret,⟨[5],[(4,(4,0))],[(4,7)]⟩),(.normal,⟨[0,1],[(4,(4,0))],[(4,7)]⟩)])],full:=[],n7:=false }),
 (39,{ loc:=[],loops:=[],l3:=[],full:=[],n7:=false }),
 (41,{ loc:=[],loops:=[],l3:=[],full:=[],n7:=false }),
 (40,{ loc:=[],loops:=[],l3:=[(12,16,[(.normal,⟨[0,11,20],[],[]⟩)]),(4,11,[(.normal,⟨[0,11,12],[],[]⟩)]),(1,3,[(.ret,⟨[4],[],[]⟩),(.normal,⟨[0,1],[],[]⟩)])],full:=[],n7:=false }),
 (15,{ loc:=[1],loops:=[],l3:=[],full:=[],n7:=false }),
 (42,{ loc:=[1],loops:=[],l3:=[],full:=[],n7:=false }),
 (43,{ loc:=[],loops:=[(3,⟨⟨[0,1,7,8],[],[]⟩,[(.exit 0,⟨[7],[],[]⟩)]⟩),(6,⟨⟨[0,1,7,8,9],[],[]⟩,[(.exit 2,⟨[0,1,7,8],[],[]⟩)]⟩)],l3:=[(6,8,[(.normal,⟨[0,1,7,8,9],[],[]⟩),(.exit 2,⟨[0,1,7,8],[],[]⟩)])],full:=[],n7:=false }),
 (25,{ loc:=[10],loops:=[],l3:=[],full:=[],n7:=false }),
 (49,{ loc:=[],loops:=[],l3:=[],full:=[],n7:=false }),
 (50,{ loc:=[5],loops:=[],l3:=[],full:=[],n7:=false }),
 (74,{ loc:=[2,4],loops:=[],l3:=[],full:=[],n7:=false }),
 (110,{ loc:=[1],loops:=[],l3:=[(3,9,[(.ret,⟨[2],[],[]⟩),(.normal,⟨[],[(1,(1,0))],[(1,6)]⟩)]),(1,3,[(.ret,⟨[2],[],[]⟩),(.normal,⟨[],[(1,(1,0))],[(1,6)]⟩)])],full:=[],n7:=false }),
 (116,{ loc:=[],loops:=[],l3:=[],full:=[],n7:=false }),
 (161,{ loc:=[],loops:=[],l3:=[],full:=[],n7:=false }),
 (194,{ loc:=[],loops:=[(2,⟨⟨[0,1,7,8],[],[]⟩,[(.exit 0,⟨[],[],[]⟩),(.ret,⟨[4],[],[]⟩)]⟩)],l3:=[],full:=[],n7:=true }),
 (162,{ loc:=[1],loops:=[],l3:=[],full:=[],n7:=false }),
 (111,{ loc:=[1,2],loops:=[],l3:=[],full:=[],n7:=false }),
 (154,{ loc:=[1,2],loops:=[],l3:=[],full:=[],n7:=false }),
 (156,{ loc:=[],loops:=[],l3:=[],full:=[7],n7:=false }),
 (121,{ loc:=[5],loops:=[(3,⟨⟨[3,7,8,9],[],[]⟩,[(.exit 0,⟨[3],[],[]⟩)]⟩)],l3:=[],full:=[],n7:=false }),
 (112,{ loc:=[],loops:=[],l3:=[(1,5,[(.ret,⟨[4,5],[],[]⟩),(.normal,⟨[0,1],[],[]⟩)])],full:=[],n7:=false }),
 (158,{ loc:=[5],loops:=[],l3:=[],full:=[],n7:=false }),
 (192,{ loc:=[],loops:=[],l3:=[],full:=[],n7:=false }),
 (213,{ loc:=[],loops:=[],l3:=[],full:=[],n7:=false }),
 (159,{ loc:=[],loops:=[],l3:=[(22,28,[(.ret,⟨[4],[],[]⟩),(.normal,⟨[0,12],[],[]⟩)]),(8,10,[(.ret,⟨[4],[],[]⟩),(.normal,⟨[0,9],[],[]⟩)]),(2,5,[(.normal,⟨[0,5,6,7],[],[]⟩)])],full:=[],n7:=false }),
 (132,{ loc:=[],loops:=[(2,⟨⟨[0,1,5],[],[]⟩,[(.exit 0,⟨[],[],[]⟩),(.ret,⟨[4],[],[]⟩)]⟩)],l3:=[(4,3,[(.ret,⟨[4],[],[]⟩),(.normal,⟨[0,1,5],[],[]⟩)])],full:=[],n7:=false }),
 (171,{ loc:=[],loops:=[(3,⟨⟨[0,5,6],[],[]⟩,[(.exit 0,⟨[],[],[]⟩),(.ret,⟨[2,3,4],[],[]⟩)]⟩)],l3:=[(5,4,[(.ret,⟨[2,3,4],[],[]⟩),(.normal,⟨[0,5,6],[],[]⟩)]),(5,11,[(.ret,⟨[2,3,4],[],[]⟩),(.normal,⟨[0,5,6],[],[]⟩)])],full:=[],n7:=false }),
 (193,{ loc:=[],loops:=[],l3:=[(8,10,[(.normal,⟨[6],[],[]⟩)]),(5,7,[(.ret,⟨[4,5],[],[]⟩),(.normal,⟨[6],[],[]⟩)]),(1,3,[(.ret,⟨[4,5],[],[]⟩),(.normal,⟨[0,1],[],[]⟩)])],full:=[],n7:=false }),
 (86,{ loc:=[],loops:=[],l3:=[],full:=[],n7:=false }),
 (135,{ loc:=[],loops:=[],l3:=[],full:=[],n7:=false }),
 (173,{ loc:=[],loops:=[],l3:=[],full:=[],n7:=false }),
 (200,{ loc:=[],loops:=[],l3:=[],full:=[],n7:=false }),
 (214,{ loc:=[],loops:=[],l3:=[],full:=[],n7:=false }),
 (223,{ loc:=[],loops:=[],l3:=[],full:=[],n7:=false }),
 (75,{ loc:=[],loops:=[],l3:=[],full:=[],n7:=false }),
 (72,{ loc:=[5],loops:=[(3,⟨⟨[0,3,17,18,19],[],[]⟩,[(.exit 0,⟨[0,3],[],[]⟩)]⟩),(12,⟨⟨[0,3,17,18,19,53,54,55],[],[]⟩,[(.exit 2,⟨[0,3,17,18,19],[],[]⟩)]⟩)],l3:=[],full:=[],n7:=false }),
 (107,{ loc:=[3,5,6,8],loops:=[],l3:=[(1,3,[(.ret,⟨[7],[(6,(6,0))],[(6,3)]⟩),(.normal,⟨[1],[(3,(3,0)),(5,(5,0)),(6,(6,0))],[(3,3),(5,7),(6,3)]⟩)])],full:=[],n7:=false }),
 (6,{ loc:=[1],loops:=[],l3:=[(4,6,[(.normal,⟨[3,4],[(1,(1,0))],[(1,7)]⟩)])],full:=[],n7:=false }),
 (16,{ loc:=[1],loops:=[],l3:=[],full:=[],n7:=false }),
 (17,{ loc:=[],loops:=[(2,⟨⟨[0,1,5],[],[]⟩,[(.exit 0,⟨[5],[],[]⟩)]⟩)],l3:=[(2,3,[(.normal,⟨[0,1,5],[],[]⟩),(.exit 0,⟨[5],[],[]⟩)])],full:=[],n7:=false }),
 (109,{ loc:=[1,2],loops:=[(3,⟨⟨[3,13,14,15],[(2,(2,0))],[(2,3)]⟩,[(.exit 0,⟨[3],[(2,(2,0))],[(2,3)]⟩)]⟩)],l3:=[],full:=[],n7:=false }),
 (157,{ loc:=[],loops:=[],l3:=[],full:=[],n7:=false }),
 (191,{ loc:=[],loops:=[(2,⟨⟨[0,1,7,8],[],[]⟩,[(.exit 0,⟨[],[],[]⟩),(.ret,⟨[4],[],[]⟩)]⟩)],l3:=[],full:=[],n7:=false }),
 (108,{ loc:=[3],loops:=[(5,⟨⟨[7,8,25,26,27],[(3,(3,0))],[(3,3)]⟩,[(.exit 0,⟨[7,8],[],[]⟩)]⟩)],l3:=[(1,3,[(.ret,⟨[4,5,6],[],[]⟩),(.normal,⟨[0],[(3,(3,0))],[(3,3)]⟩)])],full:=[],n7:=false }),
 (77,{ loc:=[4],loops:=[(2,⟨⟨[0,5,6,7],[],[]⟩,[(.exit 0,⟨[0],[],[]⟩),(.ret,⟨[2],[],[]⟩)]⟩)],l3:=[],full:=[],n7:=false }),
 (80,{ loc:=[5],loops:=[(3,⟨⟨[3,7,8,9],[],[]⟩,[(.exit 0,⟨[3],[],[]⟩)]⟩)],l3:=[],full:=[],n7:=false }),
 (76,{ loc:=[],loops:=[],l3:=[],full:=[],n7:=false }),
 (113,{ loc:=[],loops:=[(3,⟨⟨[0,1,2,8,9,10],[],[]⟩,[(.exit 0,⟨[0,1,2,8,9],[],[]⟩)]⟩)],l3:=[],full:=[],n7:=true }),
 (114,{ loc:=[2],loops:=[],l3:=[],full:=[],n7:=false }),
 (115,{ loc:=[],loops:=[],l3:=[],full:=[],n7:=false }),
 (160,{ loc:=[],loops:=[],l3:=[],full:=[],n7:=false }),
 (51,{ loc:=[],loops:=[],l3:=[(2,4,[(.ret,⟨[4,5],[],[]⟩),(.normal,⟨[0,1,6],[],[]⟩)])],full:=[],n7:=false }),
 (52,{ loc:=[6],loops:=[(7,⟨⟨[8,32,33,34],[],[]⟩,[(.exit 0,⟨[8],[],[]⟩)]⟩)],l3:=[],full:=[],n7:=false }),
 (81,{ loc:=[5,10],loops:=[],l3:=[(2,4,[(.ret,⟨[4,6],[(5,(5,0))],[(5,3)]⟩),(.normal,⟨[0,7],[(5,(5,0))],[(5,3)]⟩)])],full:=[],n7:=false })]
noncomputable def fnB:List (Nat × Func):=[
 (4,Tryz.f4),(9,Tryz.f9),(26,Tryz.f26),(28,Tryz.f28),(57,Tryz.f57),(56,Tryz.f56),(58,Tryz.f58),(27,Tryz.f27),(55,Tryz.f55),(10,Tryz.f10),(29,Tryz.f29),(59,Tryz.f59),(98,Tryz.f98),(78,Tryz.f78),(48,Tryz.f48),(71,Tryz.f71),(106,Tryz.f106),(150,Tryz.f150),(152,Tryz.f152),(153,Tryz.f153),(188,Tryz.f188),(117,Tryz.f117),(24,Tryz.f24),(47,Tryz.f47),(68,Tryz.f68),(103,Tryz.f103),(104,Tryz.f104),(149,Tryz.f149),(69,Tryz.f69),(70,Tryz.f70),(31,Tryz.f31),(61,Tryz.f61),(163,Tryz.f163),(164,Tryz.f164),(123,Tryz.f123),(172,Tryz.f172),(199,Tryz.f199),(124,Tryz.f124),(118,Tryz.f118),(165,Tryz.f165),(166,Tryz.f166),(195,Tryz.f195),(99,Tryz.f99),(100,Tryz.f100),(147,Tryz.f147),(33,Tryz.f33),(30,Tryz.f30),(60,Tryz.f60),(101,Tryz.f101),(32,Tryz.f32),(11,Tryz.f11),(34,Tryz.f34),(62,Tryz.f62),(102,Tryz.f102),(148,Tryz.f148),(184,Tryz.f184),(208,Tryz.f208),(185,Tryz.f185),(186,Tryz.f186),(209,Tryz.f209),(35,Tryz.f35),(210,Tryz.f210),(219,Tryz.f219),(220,Tryz.f220),(224,Tryz.f224),(221,Tryz.f221),(211,Tryz.f211),(12,Tryz.f12),(13,Tryz.f13),(36,Tryz.f36),(63,Tryz.f63),(8,Tryz.f8),(23,Tryz.f23),(46,Tryz.f46),(39,Tryz.f39),(41,Tryz.f41),(40,Tryz.f40),(15,Tryz.f15),(42,Tryz.f42),(43,Tryz.f43),(25,Tryz.f25),(49,Tryz.f49),(50,Tryz.f50),(74,Tryz.f74),(110,Tryz.f110),(116,Tryz.f116),(161,Tryz.f161),(194,Tryz.f194),(162,Tryz.f162),(111,Tryz.f111),(154,Tryz.f154),(156,Tryz.f156),(121,Tryz.f121),(112,Tryz.f112),(158,Tryz.f158),(192,Tryz.f192),(213,Tryz.f213),(159,Tryz.f159),(132,Tryz.f132),(171,Tryz.f171),(193,Tryz.f193),(86,Tryz.f86),(135,Tryz.f135),(173,Tryz.f173),(200,Tryz.f200),(214,Tryz.f214),(223,Tryz.f223),(75,Tryz.f75),(72,Tryz.f72),(107,Tryz.f107),(6,Tryz.f6),(16,Tryz.f16),(17,Tryz.f17),(109,Tryz.f109),(157,Tryz.f157),(191,Tryz.f191),(108,Tryz.f108),(77,Tryz.f77),(80,Tryz.f80),(76,Tryz.f76),(113,Tryz.f113),(114,Tryz.f114),(115,Tryz.f115),(160,Tryz.f160),(51,Tryz.f51),(52,Tryz.f52),(81,Tryz.f81)]
def aC1:List Nat:=[4,29,59,98,78,48,71,106,150,152,153,188,117,103,104,149,69,70,31,61,163,164,123,172,199,124,118,165,166,195,99,100,147,33,30,60,101,32,34,62,102,184,208,185,186,209,35,210,220,224,221,211,12,13,36,63,8,39,41,40,15,42,43,110,116,161,194,162,192,213,132,171,193,86,135,173,200,214,223,75,6,16,17,157,191,77,76,113,114,115,160,73,54]
def aE6:List Nat:=[55,10,24,47,68,11,148,219,23,46,74,111,154,156,121,107,109,108,80,51,81,53]
def aC9:List (Nat × List Nat):=[(4,[2,2,18,20,5,25,7,34,35,36,39,40,46,47,48,2,51,8,9,56,58,2,10,11,70,76,79,10,74,11,84,12,13,14,93,100,104,13,98,14,109,13,111,113,116,117,118,120,124,2]),(9,[4,3,6,7]),(26,[2,0,8,2]),(28,[6,9,15,4,17,22,23,19,4,29,5,32,37,38,34,5,44]),(57,[4,6,4]),(56,[4,7,8,15,17,18,4,25,5,30,31,37,41,45,4,47,51,52,62,66,69,80,83,84,6,92,93,6,96,97,4]),(58,[4,6,4]),(27,[8,10,12,16,20,23,27]),(55,[7,11]),(10,[2,3,2,3,4,20,6,24,25,4,20,31,4,37,8,41,42,4,37,2,3,49,2,3]),(29,[2,2]),(59,[6,10,14,17,23,29,32,6]),(98,[2,3,5,6,2]),(78,[2,7,6,3,4,5,12,13,14,17,18,2]),(48,[4,5,6,7,8,4,5,6]),(71,[4,5,6,8,9,7,11,13,14,16,17,18,4,5,6,22,4,5,6]),(106,[4,14,5,17,19,20,21,16,4,25,24,27,28,4,32,33,31,4,37,40,41,36,45,46,4,48,6,50,7,8,52,54,9,10,57,58,60,61,63,65,66,68,70,11,72,4,74,75,8,78,79,82,84,85,86,87,88,91,94,4,95,8,97,10,99,102,103,104,108,109,111,12,113,115,116,4,4,118,121,122,123,128,129,130,133,134,136,13,138,4,140,141,4,4]),(150,[4,5,6,4]),(152,[2,3,2]),(153,[4,12,11,5,6,16,7,8,9,18,19,23,25,26,8,21,9,30,31,33,34,35,37,4,40,10,41,42,45,8,47,48,49,8,53,54,55,56,57,8,63,10,65,66,68,69,70,71,73,75,78,79,4,4]),(188,[2,3,4,5,9,10,15,17,18,4,13,5,6,7,22,8,24,28,31,32,6,34,35,7,26,8,37,38,2,3]),(117,[2,3,6,7,2]),(24,[4,5,6,4,2000007,6000007]),(47,[8,12,8,14,16,17,8,19,21,22,3,25,26,3,30,32,3,10,34,35,37,38,11,40,43,44,45,46,50,51,52,0,56,10,59,60,63,8]),(68,[4,10,5,12,14,15,16,19,1,20,6,7,22,23,29,28,8,9,34,35,36,39,40,0,26,7,42,45,47,49,4]),(103,[2,3,7,2,9,2]),(104,[2,3,4,6,7,11,2,3,15,14,2,3]),(149,[2,3,13,4,15,2,3,17,5,19,6,22,24,7,28,31,33,2,3,36,8,39,43,44,2,3,46,10,48,52,55,2,3,58,60,64,2,3,68,11,70,72,73,2,3,76,78,82,87,2,3,91,12,93,95,96,2,3,99,103,108,113,2,3]),(69,[4,7,10,4,13,16,17,4,5,20,21,6,23,25,4,26,5,28,29,30,0]),(70,[4,5,6,4]),(31,[4,6,4]),(61,[4,8,10,5,11,13,17,4,8,4]),(163,[2,3,2]),(164,[2,3,6,7,11,12,2]),(123,[4,6,8,10,5,11,12,13,4,8,4]),(172,[2,3,5,6,9,10,13,14,16,17,21,22,25,26,29,30,33,34,37,38,41,42,45,46,48,49,53,54,56,57,2]),(199,[2,3,5,6,9,10,12,13,2]),(124,[2,3,5,6,2]),(118,[2,3,6,7,2]),(165,[2,3,2]),(166,[2,3,5,6,10,11,12,18,19,2]),(195,[2,3,5,6,9,10,13,14,2]),(99,[2,3,2]),(100,[4,7,9,4]),(147,[2,3,2]),(33,[2,4,6,8,3,9,10,13,14,15,2,6,20,2]),(30,[2,3,5,2,7,2]),(60,[4,5,6,4]),(101,[4,5,7,10,11,12,15,4]),(32,[2,3,2]),(11,[2,3,2,3,4,5,17,24,27,4,22,5,34,4,6,37,46,7,49,51,52,56,7,58,2,3,62,63,4,42,6,66,2,3]),(34,[2,5,11,2]),(62,[2,8,14,20,2,3,26,35,2,31,3,4,40,49,2,45,4,2]),(102,[2,6,5,4,10,11,18,2]),(148,[3,9,8,4,5,6,14,15,19,20,3]),(184,[4,5,6,7,10,11,14,15,19,20,18,8,9,24,26,4,5,6,27,7,28,29,31,33,34,36,37,4,5,6,40,7,42,4,5,6]),(208,[4,5,6,8,7,10,11,16,17,20,21,4,5,23,24,27,7,29,30,4,5,33,34,35,36,6,14,7,4,5]),(185,[2,5,4,7,14,18,20,26,28,11,4,2]),(186,[2,6,12,17,23,2]),(209,[2,3,5,6,2]),(35,[2,3,4,5,8,9,14,15,18,19,20,2,12,3,24,2]),(210,[2,5,4,7,14,2,11,4,19,2]),(219,[4,5,6,7,9,10,15,16,18,20,21,22,23,5,27,6,13,7,29,30,31,4]),(220,[2,3,4,5,8,9,14,15,2,12,3,19,22,23,2]),(224,[2,3,4,8,9,2,6,3,12,2]),(221,[2,3,5,6,9,10,12,13,17,18,20,21,2]),(211,[2,7,4,9,16,5,19,21,22,26,27,28,2,6,34,35,40,41,45,46,47,51,52,53,56,57,58,2,38,6,13,4,63,2]),(12,[4,4,5,11,18,22,4,15,5,4]),(13,[2,3,2,3,2,3]),(36,[2,3,9,5,13,15,18,3,9,21,2]),(63,[2,6,10,12,4,5,15,17,18,22,10,2]),(8,[2,7,2,4,11,14,16,5,6,19,21,23,24,28,2,30,31,4,14,35,2]),(23,[3,2]),(46,[5,10,13,14,5,19,20,6,23,5,26,28,7,8,30,32,35,37,42,43,51,7,70,5,5]),(39,[6,7,8,10,11,12,6]),(41,[2,3,2]),(40,[4,5,7,8,4,11,12,12,12,12,12,12,12,4,20,20,20,20,4,25,27,30,31,35,36,4,4,4]),(15,[2,11,16,21,26,31,2]),(42,[2,2]),(43,[6,10,7,8,12,13,9,17,19,20,21,23,24,25,31,32,33,7,29,9,15,8,36,6]),(25,[4,15,14,5,6,7,20,22,23,4,25,26,28,29,4,31,34,38,33,40,8,9,42,4,44,45,4,48,50,51,4,53,56,55,11,60,4,62,4,70,71,69,12,13,75,4,77,4]),(49,[4,5,6,8,4,10,12,16,18,21,23,4,25,27,4,35,37,4,4,4]),(50,[4,9,13,8,15,6,7,18,4,20,21,24,4,26,4]),(74,[5,6,5,6,17,16,8,9,21,5,6,24,25,5,6]),(110,[2,6,11,17,23,27,2,38,34,2,56,47,2,68,62,2,77,82,87,2]),(116,[4,7,9,4]),(161,[4,6,4]),(194,[4,8,10,5,11,13,17,4,8,4]),(162,[2,2]),(156,[2,2,6,2]),(121,[2,3,9,13,3,9,19,2]),(112,[4,5,7,12,13,6,4,5,18,17,23,24,4,5,26,27,4,5]),(158,[4,6,8,15,16,20,21,4,28,31,32,33,39,4,45,44,4,51,52,55,56,4]),(192,[4,5,6,4]),(213,[4,5,6,8,9,4,12,4]),(159,[4,14,5,6,7,15,8,17,19,20,22,23,5,6,7,26,5,29,28,31,9,33,35,36,4,40,41,42,43,4,52,51,55,54,10,11,60,59,4,63,62,4,68,69,70,4,77,76,80,79,12,13,85,87,88,84,4,92,97,98,91,4,105,104,4,112,113,114,118,119,4,128,127,4,130,129,132,4,137,4,141,140,143,147,152,4,156,155,4,159,158,161,162,4,4]),(132,[4,5,9,10,15,16,18,21,22,20,6,7,8,28,4,30,31,5,35,34,37,4,13,5,4]),(171,[2,3,4,5,6,8,9,15,16,14,21,2,3,4,24,25,23,28,6,30,31,2,3,4,34,35,36,5,12,6,2,3,4]),(193,[4,5,12,14,17,18,19,22,4,5,27,28,26,6,7,35,34,6,8,39,41,42,4,5,46,45,9,10,11,51,52,54,6,57,58,4,5]),(86,[4,5,7,4]),(135,[4,5,6,7,4,5]),(173,[4,5,6,7,10,4,5,11,12,14,4,5]),(200,[4,5,7,10,11,12,14,18,4]),(214,[4,5,6,7,4,5]),(223,[4,5,6,7,10,4,5,11,12,4,5]),(75,[2,3,4,2,6,2,8,2,10,2,12,2,14,2,16,2,18,2,2]),(72,[2,3,13,19,25,23,30,7,32,34,3,37,41,36,44,8,10,47,48,51,3,55,12,59,60,3,55,65,3,19,68,72,2]),(107,[7,12,17,18,22,28,7,37,38,47,7,2000010,2000014,2000019,2000030,2000035,1000035,2000042,2000045]),(6,[2,2,3,4,10,12,3,4,48,50,54,2]),(16,[2,2,2]),(17,[4,5,6,8,9,12,14,18,5,20,0,22,1,24,4]),(109,[15,5,21,25,26,15,31]),(157,[4,6,4]),(191,[4,8,10,5,11,13,17,4,8,4]),(108,[4,5,6,16,4,5,6,7,8,27,10,33,31,11,12,60,59,62,8,67,65,73,8,38,40,43,46,56,8,27,77,78,4,5,6,2000014,2000018,2000022,1000022,2000034,2000064,2000075,2000050,2000053,2000058]),(77,[2,7,9,3,16,22,23,25,27,2,7,2]),(80,[2,3,9,12,13,3,9,23,2]),(76,[4,5,7,4,5]),(113,[6,7,8,14,9,10,15,16,18,19,11,24,26,29,32,9,34,10,35,36,37,39,40,42,45,6,7]),(114,[4,7,4]),(115,[4,7,5,9,6,11,12,4,4,13,4,14,15,4,17,18,4,4]),(160,[2,3,4,2]),(51,[4,5,10,8,6,7,17,18,22,23,25,4,5,32,33,4,5,2000011,2000015,2000019,2000031,1000031,2000036]),(52,[4,12,16,11,18,5,7,21,4,23,24,8,34,10,38,39,8,34,44,4]),(81,[4,6,13,11,7,8,20,21,24,26,4,6,9,37,42,44,46,53,54,4,6,2000014,2000018,2000035,3000035,4000035,2000050])]
def mvB:List (Nat × List Nat):=[(4,[0]),(9,[0]),(26,[0]),(109,[0]),(155,[0,2]),(79,[0,2])]
def awj:List (Nat × Nat):=[(187,0),(151,2),(105,1)]
noncomputable def axi:List (Nat × (List Value->Heap->Option (Value × Heap))):=[(155,akp 1 16),(79,akp 2 40),(122,aqu 3)]
noncomputable def awn:List (Nat × (List V->VH->Option (V × VH))):=[(155,aiI 1 16),(79,aiI 2 40),(122,atZ 3)]
noncomputable def base:adb where
 ng:=1
 tab:=aD6
 fn:=Go.AM.look fnB
 G7:=aE3 aFx
 kind:=awm aC1 aE6 awj
 ext:=auw
 aaV:=fun f=>Go.AM.look axi f
def avB:List (List UInt8):=[[74,97,110],[70,101,98],[77,97,114],[65,112,114],[77,97,121],[74,117,110],[74,117,108],[65,117,103],[83,101,112],[79,99,116],[78,111,118],[68,101,99]]
def l5:Nat->Option (List V):=aoU 0 avB
noncomputable def vb:W6 where
 b:=base
 N5:=l5
 C7:=ay1 aC9
 mv:=ay1 mvB
 aaV:=fun f=>Go.AM.look awn f
noncomputable def cv:B8:=M3 vb
noncomputable def pc:FuncId->List V->Option V:=U6 cv
noncomputable def qc:FuncId->List V->Option V:=R8 cv
noncomputable def pco:FuncId->VH->List V->Option V:=acy cv
noncomputable def pcg:FuncId->VH->List V->Option (V × VH):=ae4 cv
noncomputable def qco:FuncId->VH->List V->Option V:=W0 cv
set_option maxRecDepth 100000 in
theorem fns:axr Tryz.prog fnB:=by
 unfold fnB
 refine ⟨⟨rfl,by kernel_rfl⟩,⟨rfl,by kernel_rfl⟩,⟨rfl,by kernel_rfl⟩,⟨rfl,by kernel_rfl⟩,⟨rfl,by kernel_rfl⟩,⟨rfl,by kernel_rfl⟩,⟨rfl,by kernel_rfl⟩,⟨rfl,by kernel_rfl⟩,⟨rfl,by kernel_rfl⟩,⟨rfl,by kernel_rfl⟩,⟨rfl,by kernel_rfl⟩,⟨rfl,by kernel_rfl⟩,⟨rfl,by kernel_rfl⟩,⟨rfl,by kernel_rfl⟩,⟨rfl,by kernel_rfl⟩,⟨rfl,by kernel_rfl⟩,⟨rfl,by kernel_rfl⟩,⟨rfl,by kernel_rfl⟩,⟨rfl,by kernel_rfl⟩,⟨rfl,by kernel_rfl⟩,⟨rfl,by kernel_rfl⟩,⟨rfl,by kernel_rfl⟩,⟨rfl,by kernel_rfl⟩,⟨rfl,by kernel_rfl⟩,⟨rfl,by kernel_rfl⟩,⟨rfl,by kernel_rfl⟩,⟨rfl,by kernel_rfl⟩,⟨rfl,by kernel_rfl⟩,⟨rfl,by kernel_rfl⟩,⟨rfl,by kernel_rfl⟩,⟨rfl,by kernel_rfl⟩,⟨rfl,by kernel_rfl⟩,⟨rfl,by kernel_rfl⟩,⟨rfl,by kernel_rfl⟩,⟨rfl,by kernel_rfl⟩,⟨rfl,by kernel_rfl⟩,⟨rfl,by kernel_rfl⟩,⟨rfl,by kernel_rfl⟩,⟨rfl,by kernel_rfl⟩,⟨rfl,by kernel_rfl⟩,⟨rfl,by kernel_rfl⟩,⟨rfl,by kernel_rfl⟩,⟨rfl,by kernel_rfl⟩,⟨rfl,by kernel_rfl⟩,⟨rfl,by kernel_rfl⟩,⟨rfl,by kernel_rfl⟩,⟨rfl,by kernel_rfl⟩,⟨rfl,by kernel_rfl⟩,⟨rfl,by kernel_rfl⟩,⟨rfl,by kernel_rfl⟩,⟨rfl,by kernel_rfl⟩,⟨rfl,by kernel_rfl⟩,⟨rfl,by kernel_rfl⟩,⟨rfl,by kernel_rfl⟩,⟨rfl,by kernel_rfl⟩,⟨rfl,by kernel_rfl⟩,⟨rfl,by kernel_rfl⟩,⟨rfl,by kernel_rfl⟩,⟨rfl,by kernel_rfl⟩,⟨rfl,by kernel_rfl⟩,⟨rfl,by kernel_rfl⟩,⟨rfl,by kernel_rfl⟩,⟨rfl,by kernel_rfl⟩,⟨rfl,by kernel_rfl⟩,⟨rfl,by kernel_rfl⟩,⟨rfl,by kernel_rfl⟩,⟨rfl,by kernel_rfl⟩,⟨rfl,by kernel_rfl⟩,⟨rfl,by kernel_rfl⟩,⟨rfl,by kernel_rfl⟩,⟨rfl,by kernel_rfl⟩,⟨rfl,by kernel_rfl⟩,⟨rfl,by kernel_rfl⟩,⟨rfl,by kernel_rfl⟩,⟨rfl,by kernel_rfl⟩,⟨rfl,by kernel_rfl⟩,⟨rfl,by kernel_rfl⟩,⟨rfl,by kernel_rfl⟩,⟨rfl,by kernel_rfl⟩,⟨rfl,by kernel_rfl⟩,⟨rfl,by kernel_rfl⟩,⟨rfl,by kernel_rfl⟩,⟨rfl,by kernel_rfl⟩,⟨rfl,by kernel_rfl⟩,⟨rfl,by kernel_rfl⟩,⟨rfl,by kernel_rfl⟩,⟨rfl,by kernel_rfl⟩,⟨rfl,by kernel_rfl⟩,⟨rfl,by kernel_rfl⟩,⟨rfl,by kernel_rfl⟩,⟨rfl,by kernel_rfl⟩,⟨rfl,by kernel_rfl⟩,⟨rfl,by kernel_rfl⟩,⟨rfl,by kernel_rfl⟩,⟨rfl,by kernel_rfl⟩,⟨rfl,by kernel_rfl⟩,⟨rfl,by kernel_rfl⟩,⟨rfl,by kernel_rfl⟩,⟨rfl,by kernel_rfl⟩,⟨rfl,by kernel_rfl⟩,⟨rfl,by kernel_rfl⟩,⟨rfl,by kernel_rfl⟩,⟨rfl,by kernel_rfl⟩,⟨rfl,by kernel_rfl⟩,⟨rfl,by kernel_rfl⟩,⟨rfl,by kernel_rfl⟩,⟨rfl,by kernel_rfl⟩,⟨rfl,by kernel_rfl⟩,⟨rfl,by kernel_rfl⟩,⟨rfl,by kernel_rfl⟩,⟨rfl,by kernel_rfl⟩,⟨rfl,by kernel_rfl⟩,⟨rfl,by kernel_rfl⟩,⟨rfl,by kernel_rfl⟩,⟨rfl,by kernel_rfl⟩,⟨rfl,by kernel_rfl⟩,⟨rfl,by kernel_rfl⟩,⟨rfl,by kernel_rfl⟩,⟨rfl,by kernel_rfl⟩,⟨rfl,by kernel_rfl⟩,⟨rfl,by kernel_rfl⟩,⟨rfl,by kernel_rfl⟩,⟨rfl,by kernel_rfl⟩,⟨rfl,by kernel_rfl⟩,⟨rfl,by kernel_rfl⟩,⟨rfl,by kernel_rfl⟩,⟨rfl,by kernel_rfl⟩,trivial⟩
theorem aAg:asD Tryz.prog aD6=true:=by kernel_rfl
theorem exts:alX Tryz.prog awj:=by
 unfold awj
 exact ⟨fun args w=>Go.run_callFunc_extern (fn:=Tryz.f187) (e:=Extern.BytealgIndexByte.indexByte) (by kernel_rfl) (by kernel_rfl) (by kernel_rfl) (by kernel_rfl) (by kernel_rfl) args w,trivial,fun args w=>Go.run_callFunc_extern (fn:=Tryz.f105) (e:=Extern.BytealgCount.count) (by kernel_rfl) (by kernel_rfl) (by kernel_rfl) (by kernel_rfl) (by kernel_rfl) args w,trivial⟩
def aEu:Go.Shelf.Ren:=⟨fun | 22=>155 | 29=>189 | 30=>190 | n=>n,fun | 0=>0 | 3=>3 | 4=>4 | 9=>9 | 24=>29 | n=>n,fun n=>n⟩
theorem aC8:ahZ Tryz.prog aEu 1 16 (.string (bs [])) where
 f22:=⟨ "slices.Insert[[]string,string]",by decide,Tryz.func155.trans (congrArg some (by kernel_rfl))⟩
 ov:=fun args w=>Go.run_callFunc_extern (fn:=Tryz.f189) Tryz.func189 (by kernel_rfl) (by kernel_rfl) (by kernel_rfl) (e:=Extern.SlicesOverlaps.overlaps #[29,29] #[4]) (by kernel_rfl) args w
 eb0:=by decide
 mixed:=by kernel_rfl
 t0:=Tryz.underlying0
 a0:=Tryz.isAgg0
 z0:=Tryz.sizeOf0
 v0:=Tryz.zeroValue0
 t3:=Tryz.underlying3
 a3:=Tryz.isAgg3
 z3:=Tryz.sizeOf3
 v3:=Tryz.zeroValue3
 t4:=Tryz.underlying4
 a4:=Tryz.isAgg4
 z4:=Tryz.sizeOf4
 v4:=Tryz.zeroValue4
 t24:=Tryz.underlying29
 a24:=Tryz.isAgg29
 z24:=Tryz.sizeOf29
 v24:=Tryz.zeroValue29
 z9:=Tryz.sizeOf9
 v9:=Tryz.zeroValue9
 i9:=by kernel_rfl
 zs:=rfl
 es0:=by decide
def aFb:Go.Shelf.Ren:=⟨fun | 22=>79 | 29=>119 | 30=>120 | n=>n,fun | 0=>0 | 3=>3 | 4=>4 | 9=>99 | 24=>43 | n=>n,fun n=>n⟩
theorem aFf:ahZ Tryz.prog aFb 2 40 (.agg #[(.string (bs [])),(.slice none 0 0)]) where
 f22:=⟨ "slices.Insert[[]loop.example/mailwire/impl.Box,loop.example/mailwire/impl.Box]",by decide,Tryz.func79.trans (congrArg some (by kernel_rfl))⟩
 ov:=fun args w=>Go.run_callFunc_extern (fn:=Tryz.f119) Tryz.func119 (by kernel_rfl) (by kernel_rfl) (by kernel_rfl) (e:=Extern.SlicesOverlaps.overlaps #[43,43] #[4]) (by kernel_rfl) args w
 eb0:=by decide
 mixed:=by kernel_rfl
 t0:=Tryz.underlying0
 a0:=Tryz.isAgg0
 z0:=Tryz.sizeOf0
 v0:=Tryz.zeroValue0
 t3:=Tryz.underlying3
 a3:=Tryz.isAgg3
 z3:=Tryz.sizeOf3
 v3:=Tryz.zeroValue3
 t4:=Tryz.underlying4
 a4:=Tryz.isAgg4
 z4:=Tryz.sizeOf4
 v4:=Tryz.zeroValue4
 t24:=Tryz.underlying43
 a24:=Tryz.isAgg43
 z24:=Tryz.sizeOf43
 v24:=Tryz.zeroValue43
 z9:=Tryz.sizeOf99
 v9:=Tryz.zeroValue99
 i9:=by kernel_rfl
 zs:=rfl
 es0:=by decide
def aDa:Go.Shelf.Ren:=⟨fun | 24=>122 | n=>n,fun | 0=>0 | 3=>3 | 4=>4 | 9=>31 | 24=>44 | n=>n,fun n=>n⟩
theorem aD5:auk Tryz.prog aDa 3 (.agg #[(.string (bs [])),(.slice none 0 0),(.slice none 0 0)]) where
 f24:=⟨ "slices.Delete[[]loop.example/mailwire/impl.Mail,loop.example/mailwire/impl.Mail]",by decide,Tryz.func122.trans (congrArg some (by kernel_rfl))⟩
 z1:=by decide
 mixed:=by kernel_rfl
 t0:=Tryz.underlying0
 a0:=Tryz.isAgg0
 z0:=Tryz.sizeOf0
 v0:=Tryz.zeroValue0
 t3:=Tryz.underlying3
 a3:=Tryz.isAgg3
 z3:=Tryz.sizeOf3
 v3:=Tryz.zeroValue3
 t4:=Tryz.underlying4
 a4:=Tryz.isAgg4
 z4:=Tryz.sizeOf4
 v4:=Tryz.zeroValue4
 t24:=Tryz.underlying44
 a24:=Tryz.isAgg44
 z24:=Tryz.sizeOf44
 v24:=Tryz.zeroValue44
 z9:=Tryz.sizeOf31
 v9:=Tryz.zeroValue31
 i9:=by kernel_rfl
 zs:=rfl
 es0:=by decide
theorem axP:arc Tryz.prog 1 axi:=⟨fun args hp r hp' h=>at1 1 aC8 h,fun args hp r hp' h=>at1 1 aFf h,fun args hp r hp' h=>az8 1 aD5 h,trivial⟩
theorem aCw:ajy Tryz.prog base where
 tab:=ao8 aAg
 fn:=axK fns
 ext:=aDJ exts
 aaV:=aui (P:=Tryz.prog) (ng:=1) axP
 mixed:=by kernel_rfl
theorem axW:aoz vb awn:=⟨fun args H r H' h=>atF (b:=base) rfl h,fun args H r H' h=>atF (b:=base) rfl h,fun args H r H' h=>azR (b:=base) rfl h,trivial⟩
theorem aEY:amO vb where
 zero:=aAn (ao8 aAg)
 sl:=aEN (ao8 aAg)
 gd:=fun g cs h=>by exact awV h
 pos:=awb (by kernel_rfl)
 azg:=fun f h=>ar3 (f:=f) (l:=awn) (l':=axi) rfl h
 aaV:=arM axW
end Go.Proofs.YtaapfgpeeghmeaaGreatDoor.Q
