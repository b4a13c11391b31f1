/- The program's functions, types and marks, as the machines take them. -/
import Derived.Test.YtmokcpfbeggigaaGreatDoorProg
import Derived.Test.YtmokcpfbeggigaaGreatDoorFnScriptNameK4
import Derived.KernelRfl
namespace Go.Proofs.YtmokcpfbeggigaaGreatDoor.Q
open Go Go.AM Go.Proofs Go.Shelf
set_option linter.unusedVariables false
def T8:Nat:=3
def F3:Nat:=6
def V5:Nat:=19
def abt:Nat:=18
def R6:Nat:=56
def O9:Nat:=36
def T5:Nat:=37
def K5:Nat:=7
def aad:Nat:=20
def aag:Nat:=41
def aaN:Nat:=44
def E3:Nat:=86
def F0:Nat:=85
def adk:Nat:=87
def acx:Nat:=89
def acV:Nat:=88
def abY:Nat:=91
def acf:Nat:=90
def abg:Nat:=57
def F7:Nat:=21
def aaE:Nat:=58
def aaC:Nat:=100
def aaP:Nat:=101
def aa0:Nat:=102
def adK:Nat:=22
def P3:Nat:=8
def R9:Nat:=23
def aab:Nat:=48
def Z0:Nat:=50
def S1:Nat:=24
def abq:Nat:=62
def aaD:Nat:=105
def acd:Nat:=106
def aaA:Nat:=25
def I4:Nat:=9
def aaS:Nat:=26
def Y0:Nat:=63
def D5:Nat:=107
def Y4:Nat:=108
def M9:Nat:=109
def R1:Nat:=110
def T9:Nat:=157
def P5:Nat:=175
def K0:Nat:=27
def N6:Nat:=64
def agi:Nat:=111
def aay:Nat:=112
def aaj:Nat:=158
def aaF:Nat:=99
def E1:Nat:=146
def C2:Nat:=180
def S0:Nat:=28
def abr:Nat:=43
def K6:Nat:=84
def aek:Nat:=65
def aeS:Nat:=66
def ajQ:Nat:=67
def ag5:Nat:=68
def ahd:Nat:=69
def afY:Nat:=70
def F8:Nat:=71
def ae3:Nat:=133
def ad8:Nat:=33
def ag3:Nat:=134
def afJ:Nat:=11
def ahe:Nat:=14
def af5:Nat:=17
def O5:Nat:=135
def M1:Nat:=178
def ach:Nat:=202
def E8:Nat:=206
def aaB:Nat:=203
noncomputable def auM:List (Nat × TI):=[
 (22,⟨.slice 5 1 1 [(.int .u8 0)],false,1,[(.slice none 0 0)]⟩),
 (3,⟨.int .i64,false,1,[(.int .i64 0)]⟩),
 (9,⟨.str,false,1,[(.string (bs []))]⟩),
 (4,⟨.bool,false,1,[(.bool false)]⟩),
 (39,⟨.other,false,1,[(.pointer none)]⟩),
 (80,⟨.struct [(0,1,false),(1,1,false)],true,2,[(.slice none 0 0),(.int .i64 0)]⟩),
 (78,⟨.slice 3 1 8 [(.int .i64 0)],false,1,[(.slice none 0 0)]⟩),
 (42,⟨.slice 9 1 16 [(.string (bs []))],false,1,[(.slice none 0 0)]⟩),
 (5,⟨.int .u8,false,1,[(.int .u8 0)]⟩),
 (107,⟨.arr 256 1,true,256,[(.bool false),(.bool false),(.bool false),(.bool false),(.bool false),(.bool false),(.bool false),(.bool false),(.bool false),(.bool false),(.bool false),(.bool false),(.bool false),(.bool false),(.bool false),(.bool false),(.bool false),(.bool false),(.bool false),(.bool false),(.bool false),(.bool false),(.bool false),(.bool false),(.bool false),(.bool false),(.bool false),(.bool false),(.bool false),(.bool false),(.bool false),(.bool false),(.bool false),(.bool false),(.bool false),(.bool false),(.bool false),(.bool false),(.bool false),(.bool false),(.bool false),(.bool false),(.bool false),(.bool false),(.bool false),(.bool false),(.bool false),(.bool false),(.bool false),(.bool false),(.bool false),(.bool false),(.bool false),(.bool false),(.bool false),(.bool false),(.bool false),(.bool false),(.bool false),(.bool false),(.bool false),(.bool false),(.bool false),(.bool false),(.bool false),(.bool false),(.bool false),(.bool false),(.bool false),(.bool false),(.bool false),(.bool false),(.bool false),(.bool false),(.bool false),(.bool false),(.bool false),(.bool false),(.bool false),(.bool false),(.bool false),(.bool false),(.bool false),(.bool false),(.bool false),(.bool false),(.bool false),(.bool false),(.bool false),(.bool false),(.bool false),(.bool false),(.bool false),(.bool false),(.bool false),(.bool false),(.bool false),(.bool false),(.bool false),(.bool false),(.bool false),(.bool false),(.bool false),(.bool false),(.bool false),(.bool false),(.bool false),(.bool false),(.bool false),(.bool false),(.bool false),(.bool false),(.bool false),(.bool false),(.bool false),(.bool false),(.bool false),(.bool false),(.bool false),(.bool false),(.bool false),(.bool false),(.bool false),(.bool false),(.bool false),(.bool false),(.bool false),(.bool false),(.bool false),(.bool false),(.bool false),(.bool false),(.bool false),(.bool false),(.bool false),(.bool false),(.bool false),(.bool false),(.bool false),(.bool false),(.bool false),(.bool false),(.bool false),(.bool false),(.bool false),(.bool false),(.bool false),(.bool false),(.bool false),(.bool false),(.bool false),(.bool false),(.bool false),(.bool false),(.bool false),(.bool false),(.bool false),(.bool false),(.bool false),(.bool false),(.bool false),(.bool false),(.bool false),(.bool false),(.bool false),(.bool false),(.bool false),(.bool false),(.bool false),(.bool false),(.bool false),(.bool false),(.bool false),(.bool false),(.bool false),(.bool false),(.bool false),(.bool false),(.bool false),(.bool false),(.bool false),(.bool false),(.bool false),(.bool false),(.bool false),(.bool false),(.bool false),(.bool false),(.bool false),(.bool false),(.bool false),(.bool false),(.bool false),(.bool false),(.bool false),(.bool false),(.bool false),(.bool false),(.bool false),(.bool false),(.bool false),(.bool false),(.bool false),(.bool false),(.bool false),(.bool false),(.bool false),(.bool false),(.bool false),(.bool false),(.bool false),(.bool false),(.bool false),(.bool false),(.bool false),(.bool false),(.bool false),(.bool false),(.bool false),(.bool false),(.bool false),(.bool false),(.bool false),(.bool false),(.bool false),(.bool false),(.bool false),(.bool false),(.bool false),(.bool false),(.bool false),(.bool false),(.bool false),(.bool false),(.bool false),(.bool false),(.bool false),(.bool false),(.bool false),(.bool false),(.bool false),(.bool false),(.bool false),(.bool false),(.bool false),(.bool false),(.bool false),(.bool false),(.bool false),(.bool false),(.bool false),(.bool false),(.bool false),(.bool false),(.bool false),(.bool false)]⟩),
 (111,⟨.other,false,1,[(.pointer none)]⟩),
 (53,⟨.struct [(0,1,false),(1,6,true),(7,7,true)],true,14,[(.slice none 0 0),(.int .i64 0),(.string (bs [])),(.string (bs [])),(.slice none 0 0),(.slice none 0 0),(.slice none 0 0),(.int .i64 0),(.int .i64 0),(.int .i64 0),(.int .i64 0),(.int .i64 0),(.int .i64 0),(.int .i64 0)]⟩),
 (51,⟨.struct [(0,1,false),(1,1,false),(2,1,false),(3,1,false),(4,1,false),(5,1,false),(6,1,false)],true,7,[(.int .i64 0),(.int .i64 0),(.int .i64 0),(.int .i64 0),(.int .i64 0),(.int .i64 0),(.int .i64 0)]⟩),
 (192,⟨.int .u32,false,1,[(.int .u32 0)]⟩),
 (95,⟨.other,false,1,[(.pointer none)]⟩),
 (44,⟨.slice 134 2 40 [(.string (bs [])),(.slice none 0 0)],false,1,[(.slice none 0 0)]⟩),
 (49,⟨.struct [(0,1,false),(1,1,false),(2,3,true),(5,1,false)],true,6,[(.int .i64 0),(.string (bs [])),(.string (bs [])),(.slice none 0 0),(.slice none 0 0),(.slice none 0 0)]⟩),
 (47,⟨.slice 46 3 64 [(.string (bs [])),(.slice none 0 0),(.slice none 0 0)],false,1,[(.slice none 0 0)]⟩),
 (59,⟨.struct [(0,1,false),(1,1,false),(2,1,false)],true,3,[(.string (bs [])),(.string (bs [])),(.string (bs []))]⟩),
 (28,⟨.slice 59 3 48 [(.string (bs [])),(.string (bs [])),(.string (bs []))],false,1,[(.slice none 0 0)]⟩),
 (33,⟨.struct [(0,1,false),(1,1,false),(2,1,false)],true,3,[(.string (bs [])),(.string (bs [])),(.slice none 0 0)]⟩),
 (134,⟨.struct [(0,1,false),(1,1,false)],true,2,[(.string (bs [])),(.slice none 0 0)]⟩),
 (46,⟨.struct [(0,1,false),(1,1,false),(2,1,false)],true,3,[(.string (bs [])),(.slice none 0 0),(.slice none 0 0)]⟩)]
noncomputable def av8:List (Nat × M5):=[
 (3,{ loc:=[],loops:=[],p8:=[(6,8,[(.ret,⟨[2],[],[]⟩),(.normal,⟨[4],[],[]⟩)])],full:=[],y2:=false }),
 (6,{ loc:=[],loops:=[],p8:=[],full:=[],y2:=false }),
 (19,{ loc:=[],loops:=[],p8:=[(1,3,[(.normal,⟨[0],[],[]⟩)])],full:=[],y2:=false }),
 (18,{ loc:=[],loops:=[(3,⟨⟨[0,3,4],[],[]⟩,[(.exit 0,⟨[3],[],[]⟩)]⟩)],p8:=[],full:=[],y2:=false }),
 (56,{ loc:=[],loops:=[],p8:=[],full:=[],y2:=false }),
 (36,{ loc:=[],loops:=[],p8:=[(2,4,[(.ret,⟨[4],[],[]⟩),(.normal,⟨[0,1],[],[]⟩)])],full:=[],y2:=false }),
 (37,{ loc:=[],loops:=[],p8:=[],full:=[],y2:=false }),
 (7,{ loc:=[],loops:=[(6,⟨⟨[0,4],[],[]⟩,[(.exit 1,⟨[4],[],[]⟩)]⟩),(8,⟨⟨[0,4,5],[],[]⟩,[(.exit 3,⟨[0,4,5],[],[]⟩)]⟩)],p8:=[(8,9,[(.normal,⟨[0,4,5],[],[]⟩),(.exit 3,⟨[0,4,5],[],[]⟩)])],full:=[],y2:=false }),
 (20,{ loc:=[],loops:=[],p8:=[],full:=[],y2:=false }),
 (41,{ loc:=[],loops:=[(2,⟨⟨[0,5,6],[],[]⟩,[(.exit 0,⟨[0],[],[]⟩),(.ret,⟨[2],[],[]⟩)]⟩)],p8:=[],full:=[],y2:=false }),
 (44,{ loc:=[],loops:=[],p8:=[(3,5,[(.ret,⟨[4],[],[]⟩),(.normal,⟨[0,1],[],[]⟩)]),(1,3,[(.ret,⟨[4],[],[]⟩),(.normal,⟨[0,1],[],[]⟩)])],full:=[],y2:=false }),
 (86,{ loc:=[],loops:=[(1,⟨⟨[0,1],[],[]⟩,[(.exit 0,⟨[0],[],[]⟩)]⟩)],p8:=[(1,2,[(.normal,⟨[0,1],[],[]⟩),(.exit 0,⟨[0],[],[]⟩)])],full:=[],y2:=false }),
 (85,{ loc:=[],loops:=[(1,⟨⟨[0,1],[],[]⟩,[(.exit 0,⟨[0],[],[]⟩)]⟩)],p8:=[(1,2,[(.normal,⟨[0,1],[],[]⟩),(.exit 0,⟨[0],[],[]⟩)])],full:=[],y2:=false }),
 (21,{ loc:=[],loops:=[(3,⟨⟨[0,3,6,7],[],[]⟩,[(.exit 0,⟨[3],[],[]⟩)]⟩)],p8:=[],full:=[],y2:=false }),
 (58,{ loc:=[],loops:=[],p8:=[(1,5,[(.ret,⟨[2],[],[]⟩),(.normal,⟨[0],[],[]⟩)])],full:=[],y2:=false }),
 (100,{ loc:=[],loops:=[],p8:=[],full:=[],y2:=false }),
 (101,{ loc:=[],loops:=[],p8:=[],full:=[],y2:=false }),
 (102,{ loc:=[],loops:=[],p8:=[],full:=[],y2:=false }),
 (8,{ loc:=[],loops:=[(7,⟨⟨[0,4,5],[],[]⟩,[(.exit 0,⟨[4],[],[]⟩)]⟩),(9,⟨⟨[0,4,5,6],[],[]⟩,[(.exit 2,⟨[0,4,5,6],[],[]⟩)]⟩)],p8:=[(12,14,[(.normal,⟨[0,4,6,7],[],[]⟩)]),(9,10,[(.normal,⟨[0,4,5,6],[],[]⟩),(.exit 2,⟨[0,4,5,6],[],[]⟩)])],full:=[],y2:=false }),
 (23,{ loc:=[],loops:=[(2,⟨⟨[0,3],[],[]⟩,[(.exit 0,⟨[0],[],[]⟩),(.ret,⟨[2],[],[]⟩)]⟩)],p8:=[(4,3,[(.ret,⟨[2],[],[]⟩),(.normal,⟨[0,3],[],[]⟩)])],full:=[],y2:=false }),
 (48,{ loc:=[],loops:=[(2,⟨⟨[0,3],[],[]⟩,[(.exit 0,⟨[0],[],[]⟩),(.ret,⟨[2],[],[]⟩)]⟩)],p8:=[(4,3,[(.ret,⟨[2],[],[]⟩),(.normal,⟨[0,3],[],[]⟩)]),(2,4,[(.normal,⟨[0,3],[],[]⟩),(.exit 0,⟨[0],[],[]⟩)])],full:=[],y2:=false }),
 (50,{ loc:=[],loops:=[(3,⟨⟨[0],[],[]⟩,[(.exit 2,⟨[0],[],[]⟩)]⟩),(1,⟨⟨[0],[],[]⟩,[(.exit 0,⟨[0],[],[]⟩)]⟩)],p8:=[(3,4,[(.normal,⟨[0],[],[]⟩),(.exit 2,⟨[0],[],[]⟩)]),(1,2,[(.normal,⟨[0],[],[]⟩),(.exit 0,⟨[0],[],[]⟩)])],full:=[],y2:=false }),
 (24,{ loc:=[],loops:=[(3,⟨⟨[0,3,4],[],[]⟩,[(.exit 0,⟨[3],[],[]⟩)]⟩)],p8:=[],full:=[],y2:=false }),
 (62,{ loc:=[],loops:=[],p8:=[(3,5,[(.ret,⟨[2],[],[]⟩),(.normal,⟨[0],[],[]⟩)])],full:=[],y2:=false }),
 (105,{ loc:=[],loops:=[],p8:=[],full:=[],y2:=false }),
 (106,{ loc:=[],loops:=[],p8:=[],full:=[],y2:=false }),
 (25,{ loc:=[],loops:=[],p8:=[(1,3,[(.ret,⟨[2,3],[],[]⟩),(.normal,⟨[0],[],[]⟩)])],full:=[],y2:=false }),
 (9,{ loc:=[],loops:=[(5,⟨⟨[3,4,12,13,14],[],[]⟩,[(.exit 0,⟨[4],[],[]⟩),(.ret,⟨[2],[],[]⟩)]⟩)],p8:=[(8,10,[(.ret,⟨[2],[],[]⟩),(.normal,⟨[3,4,6,12,13,14],[],[]⟩)])],full:=[],y2:=false }),
 (26,{ loc:=[0,1],loops:=[],p8:=[],full:=[],y2:=false }),
 (63,{ loc:=[4,9],loops:=[(8,⟨⟨[7],[(4,(4,0)),(9,(9,0))],[(4,7),(9,7)]⟩,[(.exit 0,⟨[7],[(4,(4,0)),(9,(9,0))],[(4,7),(9,7)]⟩)]⟩)],p8:=[(8,9,[(.normal,⟨[7],[(4,(4,0)),(9,(9,0))],[(4,7),(9,7)]⟩),(.exit 0,⟨[7],[(4,(4,0)),(9,(9,0))],[(4,7),(9,7)]⟩)]),(1,3,[(.ret,⟨[5],[(4,(4,0))],[(4,7)]⟩),(.normal,⟨[0,1],[(4,(4,0))],[(4,7)]⟩)])],full:=[],y2:=false }),
 (107,{ loc:=[],loops:=[],p8:=[],full:=[],y2:=false }),
 (108,{ loc:=[],loops:=[],p8:=[],full:=[],y2:=false }),
 (109,{ loc:=[],loops:=[],p8:=[(12,16,[(.normal,⟨[0,11,20],[],[]⟩)]),(4,11,[(.normal,⟨[0,11,12],[],[]⟩)]),(1,3,[(.ret,⟨[4],[],[]⟩),(.normal,⟨[0,1],[],[]⟩)])],full:=[],y2:=false }),
 (110,{ loc:=[1],loops:=[],p8:=[],full:=[],y2:=false }),
 (157,{ loc:=[1],loops:=[],p8:=[],full:=[],y2:=false }),
 (175,{ loc:=[],loops:=[(3,⟨⟨[0,1,7,8],[],[]⟩,[(.exit 0,⟨[7],[],[]⟩)]⟩),(6,⟨⟨[0,1,7,8,9],[],[]⟩,[(.exit 2,⟨[0,1,7,8],[],[]⟩)]⟩)],p8:=[(6,8,[(.normal,⟨[0,1,7,8,9],[],[]⟩),(.exit 2,⟨[0,1,7,8],[],[]⟩)])],full:=[],y2:=false }),
 (27,{ loc:=[],loops:=[],p8:=[],full:=[],y2:=false }),
 (64,{ loc:=[],loops:=[(11,⟨⟨[0,1,2,3,9,10],[],[]⟩,[(.exit 0,⟨[0,9,10],[],[]⟩)]⟩)],p8:=[(5,7,[(.normal,⟨[0,1,2,3],[],[]⟩)])],full:=[],y2:=false }),
 (112,{ loc:=[],loops:=[(6,⟨⟨[0,1,5],[],[]⟩,[(.ret,⟨[4],[],[]⟩)]⟩)],p8:=[],full:=[],y2:=false }),
 (158,{ loc:=[],loops:=[],p8:=[],full:=[],y2:=false }),
 (99,{ loc:=[],loops:=[],p8:=[],full:=[],y2:=false }),
 (146,{ loc:=[],loops:=[(15,⟨⟨[0,1,5,6,7,8,9,10],[],[]⟩,[(.exit 1,⟨[],[],[]⟩),(.ret,⟨[4],[],[]⟩)]⟩)],p8:=[(21,23,[(.ret,⟨[4],[],[]⟩),(.normal,⟨[0,1,5,6,7,8,9,10],[],[]⟩)]),(16,21,[(.ret,⟨[4],[],[]⟩),(.normal,⟨[0,1,5,6,7,8,9,10],[],[]⟩)]),(2,10,[(.ret,⟨[4],[],[]⟩),(.normal,⟨[0,1,5],[],[]⟩)])],full:=[],y2:=false }),
 (180,{ loc:=[],loops:=[],p8:=[],full:=[],y2:=false }),
 (182,{ loc:=[],loops:=[],p8:=[],full:=[],y2:=false }),
 (183,{ loc:=[],loops:=[(11,⟨⟨[0,1,5,6,7,8,10],[],[]⟩,[(.exit 2,⟨[],[],[]⟩),(.ret,⟨[4],[],[]⟩)]⟩),(5,⟨⟨[0,1,5,6,7,8,9],[],[]⟩,[(.exit 0,⟨[0,1,5,6,7,8],[],[]⟩)]⟩)],p8:=[(8,10,[(.ret,⟨[4],[],[]⟩),(.normal,⟨[0,1,5,6,7,8],[],[]⟩)])],full:=[],y2:=false }),
 (205,{ loc:=[],loops:=[(8,⟨⟨[4,6,7,8],[],[]⟩,[(.exit 2,⟨[4,6],[],[]⟩)]⟩),(3,⟨⟨[0,4,5],[],[]⟩,[(.exit 0,⟨[0,4],[],[]⟩)]⟩)],p8:=[(10,9,[(.normal,⟨[4,6,7,8],[],[]⟩)]),(10,12,[(.normal,⟨[4,6,7,8],[],[]⟩)])],full:=[],y2:=false }),
 (28,{ loc:=[10],loops:=[],p8:=[],full:=[],y2:=false }),
 (43,{ loc:=[],loops:=[],p8:=[],full:=[],y2:=false }),
 (84,{ loc:=[],loops:=[],p8:=[],full:=[],y2:=false }),
 (65,{ loc:=[],loops:=[],p8:=[],full:=[],y2:=false }),
 (114,{ loc:=[],loops:=[(2,⟨⟨[0,1,5],[],[]⟩,[(.exit 0,⟨[5],[],[]⟩)]⟩)],p8:=[(2,3,[(.normal,⟨[0,1,5],[],[]⟩),(.exit 0,⟨[5],[],[]⟩)])],full:=[],y2:=false }),
 (71,{ loc:=[6,11],loops:=[],p8:=[],full:=[],y2:=false }),
 (135,{ loc:=[],loops:=[(5,⟨⟨[4,5,14,15,16],[],[]⟩,[(.exit 0,⟨[4],[],[]⟩)]⟩)],p8:=[(10,12,[(.normal,⟨[4,7,9,14,15,16],[],[]⟩)]),(8,10,[(.normal,⟨[4,7,8,9,14,15,16],[],[]⟩)])],full:=[],y2:=false }),
 (178,{ loc:=[],loops:=[(5,⟨⟨[0,4,5,6],[],[]⟩,[(.exit 0,⟨[0,4],[],[]⟩)]⟩)],p8:=[(16,18,[(.ret,⟨[2,3],[],[]⟩),(.normal,⟨[4],[],[]⟩)]),(7,6,[(.normal,⟨[0,4,5,6],[],[]⟩)]),(1,3,[(.ret,⟨[2,3],[],[]⟩),(.normal,⟨[0],[],[]⟩)])],full:=[],y2:=false }),
 (202,{ loc:=[],loops:=[],p8:=[(1,3,[(.ret,⟨[2,3],[],[]⟩),(.normal,⟨[0],[],[]⟩)])],full:=[],y2:=false }),
 (206,{ loc:=[],loops:=[],p8:=[],full:=[],y2:=false }),
 (203,{ loc:=[],loops:=[],p8:=[(1,3,[(.ret,⟨[2,3],[],[]⟩),(.normal,⟨[0],[],[]⟩)])],full:=[],y2:=false })]
noncomputable def fnB:List (Nat × Func):=[
 (3,Tryz.f3),(6,Tryz.f6),(19,Tryz.f19),(18,Tryz.f18),(56,Tryz.f56),(36,Tryz.f36),(37,Tryz.f37),(7,Tryz.f7),(20,Tryz.f20),(41,Tryz.f41),(44,Tryz.f44),(86,Tryz.f86),(85,Tryz.f85),(21,Tryz.f21),(58,Tryz.f58),(100,Tryz.f100),(101,Tryz.f101),(102,Tryz.f102),(8,Tryz.f8),(23,Tryz.f23),(48,Tryz.f48),(50,Tryz.f50),(24,Tryz.f24),(62,Tryz.f62),(105,Tryz.f105),(106,Tryz.f106),(25,Tryz.f25),(9,Tryz.f9),(26,Tryz.f26),(63,Tryz.f63),(107,Tryz.f107),(108,Tryz.f108),(109,Tryz.f109),(110,Tryz.f110),(157,Tryz.f157),(175,Tryz.f175),(27,Tryz.f27),(64,Tryz.f64),(112,Tryz.f112),(158,Tryz.f158),(99,Tryz.f99),(146,Tryz.f146),(180,Tryz.f180),(182,Tryz.f182),(183,Tryz.f183),(205,Tryz.f205),(28,Tryz.f28),(43,Tryz.f43),(84,Tryz.f84),(65,Tryz.f65),(114,Tryz.f114),(71,Tryz.f71),(135,Tryz.f135),(178,Tryz.f178),(202,Tryz.f202),(206,Tryz.f206),(203,Tryz.f203)]
def avy:List Nat:=[3,6,7,20,41,44,86,85,91,90,21,58,100,101,102,8,23,48,50,24,62,105,106,25,9,107,108,109,110,157,175,112,158,99,146,180,182,183,205,43,84,115,114,70,71,33,11,17,135,178,202,206,203]
def avO:List Nat:=[87,26,63,27,64,111,67,69,133,134,14]
def auO:List (Nat × List Nat):=[(3,[2,2,11,3,14,13,4,5,19,18,6,7,23,24,26,27,28,31,32,35,36,39,40,42,43,44,2,47,51,2]),(6,[2,3,2]),(19,[2,0,8,2]),(18,[2,3,5,4,8,12,13,3,10,4,17,2]),(56,[4,6,4]),(36,[4,7,8,15,17,18,4,25,5,30,31,37,41,45,4,47,51,52,62,66,69,80,83,84,6,92,93,6,96,97,4]),(37,[4,6,4]),(7,[2,3,7,6,2,3,11,10,14,2,3,4,16,5,19,20,23,24,25,32,5,34,35,36,41,42,4,0,2,3]),(20,[2,3,6,7,9,12,13,16,17,2]),(41,[2,4,6,8,3,9,10,13,14,15,2,6,20,2]),(44,[4,7,9,10,13,4,14,17,18,22,23,26,4,30,29,6,34,35,4,38,39,41,4]),(86,[4,5,8,9,10,14,17,18,0,22,4]),(85,[4,5,8,9,11,14,0,16,4]),(21,[2,3,5,7,9,4,10,11,12,3,7,17,2]),(58,[2,4,6,7,10,11,14,15,3,18,2,22,21,2,24,2]),(100,[2,3,5,6,9,10,12,13,2]),(101,[2,3,5,6,2]),(102,[2,3,5,10,12,2]),(8,[2,3,9,2,3,12,15,2,3,4,5,16,17,20,6,22,23,26,27,28,29,36,6,39,40,41,38,7,8,46,48,4,50,51,4,53,5,54,2,3]),(23,[2,3,4,6,11,12,15,16,17,2,9,3,22,25,26,28,31,32,2]),(48,[2,3,4,5,8,9,14,15,18,19,20,2,12,3,24,2]),(50,[2,3,6,7,11,0,13,16,17,18,24,25,0,29,2]),(24,[2,3,4,5,6,11,12,13,3,9,4,17,2]),(62,[2,3,2,5,7,8,11,12,15,2,18,2]),(105,[2,3,5,6,9,10,12,13,17,18,20,21,2]),(106,[2,3,5,10,12,2]),(25,[2,3,5,8,9,2,3,13,4,17,2,3,20,2,3]),(9,[2,7,2,4,11,14,16,5,6,19,21,23,24,28,2,30,31,4,14,35,2]),(26,[3,2]),(63,[5,10,13,14,5,19,20,6,23,5,26,28,7,8,30,32,35,37,42,43,51,7,70,5,5]),(107,[6,7,8,10,11,12,6]),(108,[2,3,2]),(109,[4,5,7,8,4,11,12,12,12,12,12,12,12,4,20,20,20,20,4,25,27,30,31,35,36,4,4,4]),(110,[2,11,16,21,26,31,2]),(157,[2,2]),(175,[6,10,7,8,12,13,9,17,19,20,21,23,24,25,31,32,33,7,29,9,15,8,36,6]),(27,[4,5,6,4,2000007,6000007]),(64,[8,12,8,14,16,17,8,19,21,22,3,25,26,3,30,32,3,10,34,35,37,38,11,40,43,44,45,46,50,51,52,0,56,10,59,60,63,8]),(112,[4,7,10,4,13,16,17,4,5,20,21,6,23,25,4,26,5,28,29,30,0]),(158,[2,3,7,2,9,2]),(99,[4,5,6,4]),(146,[4,14,5,17,19,20,21,16,4,25,24,27,28,4,32,33,31,4,37,40,41,36,45,46,4,48,6,50,7,8,52,54,9,10,57,58,60,61,63,65,66,68,70,11,72,4,74,75,8,78,79,82,84,85,86,87,88,91,94,4,95,8,97,10,99,102,103,104,108,109,111,12,113,115,116,4,4,118,121,122,123,128,129,130,133,134,136,13,138,4,140,141,4,4]),(180,[4,5,6,4]),(182,[2,3,2]),(183,[4,12,11,5,6,16,7,8,9,18,19,23,25,26,8,21,9,30,31,33,34,35,37,4,40,10,41,42,45,8,47,48,49,8,53,54,55,56,57,8,63,10,65,66,68,69,70,71,73,75,78,79,4,4]),(205,[2,3,4,5,9,10,15,17,18,4,13,5,6,7,22,8,24,28,31,32,6,34,35,7,26,8,37,38,2,3]),(28,[4,15,14,5,6,7,20,22,23,4,25,26,28,29,4,31,34,38,33,40,8,9,42,4,44,45,4,48,50,51,4,53,56,55,11,60,4,62,4,70,71,69,12,13,75,4,77,4]),(43,[4,5,6,7,8,4,5,6]),(84,[4,5,6,8,9,7,11,13,14,16,17,18,4,5,6,22,4,5,6]),(65,[4,5,6,8,4,10,12,16,18,21,23,4,25,27,4,35,37,4,4,4]),(114,[4,5,6,8,9,12,14,18,5,20,0,22,1,24,4]),(71,[4,5,17,18,21,20,7,27,4,5,28,31,30,9,10,37,38,39,40,42,4,5,48,51,50,12,57,4,5,58,61,60,13,14,66,65,15,16,70,71,72,73,4,5,4,5]),(135,[2,3,10,2,3,4,5,13,16,18,6,7,22,21,8,9,26,28,29,30,31,35,4,37,38,7,39,40,42,4,5,16,44,2,3,47,2,3]),(178,[2,3,11,14,15,2,3,20,21,4,5,6,25,26,31,32,40,42,4,45,48,49,47,7,8,54,55,4,58,6,34,35,36,4,29,6,60,9,10,66,68,69,70,2,3,2,3]),(202,[2,3,6,9,10,2,3,14,17,4,5,20,22,25,27,28,2,3]),(206,[4,5,6,4]),(203,[2,3,4,7,8,12,13,2,3,18,2,3])]
def mvB:List (Nat × List Nat):=[(3,[0]),(6,[0]),(19,[0])]
def aoV:List (Nat × Nat):=[(159,1),(204,0),(181,2)]
noncomputable def aoB:List (Nat × (List Value->Heap->Option (Value × Heap))):=[(57,ajR 1),(22,agY)]
noncomputable def aoM:List (Nat × (List V->VH->Option (V × VH))):=[(57,alw),(22,aiN)]
noncomputable def base:W7 where
 ng:=2
 tab:=auM
 fn:=Go.AM.look fnB
 I8:=avT av8
 kind:=aoQ avy avO aoV
 ext:=amJ
 Q8:=fun f=>Go.AM.look aoB f
def I2:Nat->Option (List V):=fun _=>none
def giB:Nat->Bool:=au2 1
noncomputable def vb:O7 where
 b:=base
 D0:=I2
 gi:=giB
 D7:=aqI auO
 mv:=aqI mvB
 Q8:=fun f=>Go.AM.look aoM f
noncomputable def cv:w6:=G7 vb
noncomputable def pc:FuncId->List V->Option V:=V7 cv
noncomputable def qc:FuncId->List V->Option V:=P7 cv
noncomputable def pcg:FuncId->VH->List V->Option (V × VH):=aaV cv
set_option maxRecDepth 100000 in
theorem fns:aoD Tryz.prog fnB:=by
 unfold fnB
 refine ⟨⟨rfl,by kernel_rfl⟩,⟨rfl,by kernel_rfl⟩,⟨rfl,by kernel_rfl⟩,⟨rfl,by kernel_rfl⟩,⟨rfl,by kernel_rfl⟩,⟨rfl,by kernel_rfl⟩,⟨rfl,by kernel_rfl⟩,⟨rfl,by kernel_rfl⟩,⟨rfl,by kernel_rfl⟩,⟨rfl,by kernel_rfl⟩,⟨rfl,by kernel_rfl⟩,⟨rfl,by kernel_rfl⟩,⟨rfl,by kernel_rfl⟩,⟨rfl,by kernel_rfl⟩,⟨rfl,by kernel_rfl⟩,⟨rfl,by kernel_rfl⟩,⟨rfl,by kernel_rfl⟩,⟨rfl,by kernel_rfl⟩,⟨rfl,by kernel_rfl⟩,⟨rfl,by kernel_rfl⟩,⟨rfl,by kernel_rfl⟩,⟨rfl,by kernel_rfl⟩,⟨rfl,by kernel_rfl⟩,⟨rfl,by kernel_rfl⟩,⟨rfl,by kernel_rfl⟩,⟨rfl,by kernel_rfl⟩,⟨rfl,by kernel_rfl⟩,⟨rfl,by kernel_rfl⟩,⟨rfl,by kernel_rfl⟩,⟨rfl,by kernel_rfl⟩,⟨rfl,by kernel_rfl⟩,⟨rfl,by kernel_rfl⟩,⟨rfl,by kernel_rfl⟩,⟨rfl,by kernel_rfl⟩,⟨rfl,by kernel_rfl⟩,⟨rfl,by kernel_rfl⟩,⟨rfl,by kernel_rfl⟩,⟨rfl,by kernel_rfl⟩,⟨rfl,by kernel_rfl⟩,⟨rfl,by kernel_rfl⟩,⟨rfl,by kernel_rfl⟩,⟨rfl,by kernel_rfl⟩,⟨rfl,by kernel_rfl⟩,⟨rfl,by kernel_rfl⟩,⟨rfl,by kernel_rfl⟩,⟨rfl,by kernel_rfl⟩,⟨rfl,by kernel_rfl⟩,⟨rfl,by kernel_rfl⟩,⟨rfl,by kernel_rfl⟩,⟨rfl,by kernel_rfl⟩,⟨rfl,by kernel_rfl⟩,⟨rfl,by kernel_rfl⟩,⟨rfl,by kernel_rfl⟩,⟨rfl,by kernel_rfl⟩,⟨rfl,by kernel_rfl⟩,⟨rfl,by kernel_rfl⟩,⟨rfl,by kernel_rfl⟩,trivial⟩
theorem aq3:alh Tryz.prog auM=true:=by kernel_rfl
theorem exts:afU Tryz.prog aoV:=by
 unfold aoV
 exact ⟨fun args w=>Go.run_callFunc_extern (fn:=Tryz.f159) (e:=Extern.BytealgCount.count) (by kernel_rfl) (by kernel_rfl) (by kernel_rfl) (by kernel_rfl) (by kernel_rfl) args w,fun args w=>Go.run_callFunc_extern (fn:=Tryz.f204) (e:=Extern.BytealgIndexByte.indexByte) (by kernel_rfl) (by kernel_rfl) (by kernel_rfl) (by kernel_rfl) (by kernel_rfl) args w,trivial,trivial⟩
def Tryz.ahu:Go.Shelf.Ren:=⟨fun | 144=>57 | 143=>99 | 219=>146 | 217=>180 | 225=>181 | 224=>182 | 267=>183 | 266=>204 | 314=>205 | n=>n,fun | 9=>9 | 4=>4 | 3=>3 | 5=>5 | 46=>157 | 146=>193 | 51=>192 | n=>n,fun | 1=>1 | n=>n⟩
theorem Tryz.atu:Go.Proofs.Lays.n144 Tryz.prog Tryz.ahu:={
 mixed:=by kernel_rfl
 f143:=Tryz.func99.trans (congrArg some (by kernel_rfl))
 f144:=Tryz.func57.trans (congrArg some (by kernel_rfl))
 f217:=Tryz.func180.trans (congrArg some (by kernel_rfl))
 f219:=Tryz.func146.trans (congrArg some (by kernel_rfl))
 f224:=Tryz.func182.trans (congrArg some (by kernel_rfl))
 f225:=Tryz.func181.trans (congrArg some (by kernel_rfl))
 f266:=Tryz.func204.trans (congrArg some (by kernel_rfl))
 f267:=Tryz.func183.trans (congrArg some (by kernel_rfl))
 f314:=Tryz.func205.trans (congrArg some (by kernel_rfl))
 t3:=Tryz.underlying3
 a3:=Tryz.isAgg3
 z3:=Tryz.sizeOf3
 v3:=Tryz.zeroValue3
 t4:=Tryz.underlying4
 a4:=Tryz.isAgg4
 z4:=Tryz.sizeOf4
 v4:=Tryz.zeroValue4
 t5:=Tryz.underlying5
 a5:=Tryz.isAgg5
 z5:=Tryz.sizeOf5
 v5:=Tryz.zeroValue5
 t9:=Tryz.underlying9
 a9:=Tryz.isAgg9
 z9:=Tryz.sizeOf9
 v9:=Tryz.zeroValue9
 t46:=Tryz.underlying157
 a46:=Tryz.isAgg157
 z46:=Tryz.sizeOf157
 v46:=Tryz.zeroValue157
 t51:=Tryz.underlying192
 a51:=Tryz.isAgg192
 z51:=Tryz.sizeOf192
 v51:=Tryz.zeroValue192
 t146:=Tryz.underlying193
 a146:=Tryz.isAgg193
 z146:=Tryz.sizeOf193
 v146:=Tryz.zeroValue193
 g1:=by kernel_rfl }
theorem avQ:Lays.n144 Tryz.prog Tryz.ahu:=Tryz.atu
def Tryz.adS:Go.Shelf.Ren:=⟨fun | 156=>22 | 165=>59 | 166=>60 | 169=>61 | 240=>103 | 241=>104 | 276=>155 | 277=>156 | n=>n,fun | 31=>42 | 9=>9 | 3=>3 | 4=>4 | 0=>0 | 20=>20 | 72=>85 | 76=>89 | 70=>83 | 37=>22 | 75=>88 | 127=>118 | 164=>158 | 5=>5 | 80=>91 | n=>n,fun | n=>n⟩
theorem Tryz.atH:Go.Proofs.Lays.n156 Tryz.prog Tryz.adS:={
 mixed:=by kernel_rfl
 f156:=Tryz.func22.trans (congrArg some (by kernel_rfl))
 f165:=Tryz.func59.trans (congrArg some (by kernel_rfl))
 f166:=Tryz.func60.trans (congrArg some (by kernel_rfl))
 f169:=Tryz.func61.trans (congrArg some (by kernel_rfl))
 f240:=Tryz.func103.trans (congrArg some (by kernel_rfl))
 f241:=Tryz.func104.trans (congrArg some (by kernel_rfl))
 f276:=Tryz.func155.trans (congrArg some (by kernel_rfl))
 f277:=Tryz.func156.trans (congrArg some (by kernel_rfl))
 t0:=Tryz.underlying0
 a0:=Tryz.isAgg0
 z0:=Tryz.sizeOf0
 v0:=Tryz.zeroValue0
 t3:=Tryz.underlying3
 a3:=Tryz.isAgg3
 z3:=Tryz.sizeOf3
 v3:=Tryz.zeroValue3
 t4:=Tryz.underlying4
 a4:=Tryz.isAgg4
 z4:=Tryz.sizeOf4
 v4:=Tryz.zeroValue4
 t9:=Tryz.underlying9
 a9:=Tryz.isAgg9
 z9:=Tryz.sizeOf9
 v9:=Tryz.zeroValue9
 t20:=Tryz.underlying20
 a20:=Tryz.isAgg20
 z20:=Tryz.sizeOf20
 v20:=Tryz.zeroValue20
 t31:=Tryz.underlying42
 a31:=Tryz.isAgg42
 z31:=Tryz.sizeOf42
 v31:=Tryz.zeroValue42
 t37:=Tryz.underlying22
 a37:=Tryz.isAgg22
 z37:=Tryz.sizeOf22
 v37:=Tryz.zeroValue22
 t70:=Tryz.underlying83
 a70:=Tryz.isAgg83
 z70:=Tryz.sizeOf83
 v70:=Tryz.zeroValue83
 t72:=Tryz.underlying85
 a72:=Tryz.isAgg85
 z72:=Tryz.sizeOf85
 v72:=Tryz.zeroValue85
 t75:=Tryz.underlying88
 a75:=Tryz.isAgg88
 z75:=Tryz.sizeOf88
 v75:=Tryz.zeroValue88
 t76:=Tryz.underlying89
 a76:=Tryz.isAgg89
 z76:=Tryz.sizeOf89
 v76:=Tryz.zeroValue89
 t127:=Tryz.underlying118
 a127:=Tryz.isAgg118
 z127:=Tryz.sizeOf118
 v127:=Tryz.zeroValue118
 t164:=Tryz.underlying158
 a164:=Tryz.isAgg158
 z164:=Tryz.sizeOf158
 v164:=Tryz.zeroValue158 }
theorem Tryz.ahg:Builder.Extra Tryz.prog Tryz.adS:={
 sizeBuilder:=by kernel_rfl
 liesBuilder:=by kernel_rfl
 t5:=Tryz.underlying5
 a5:=Tryz.isAgg5
 z5:=Tryz.sizeOf5
 v5:=Tryz.zeroValue5
 infoByte:=by kernel_rfl
 cellsByte:=by kernel_rfl
 sizeByte:=by kernel_rfl
 neB5:=by decide }
theorem avK:as2 Tryz.prog Tryz.adS:=⟨Tryz.atH,Tryz.ahg⟩
theorem ape:akn Tryz.prog 2 aoB:=⟨fun args hp r hp' h=>arz 2 avQ (by decide) h,fun args hp r hp' h=>apM 2 avK h,trivial⟩
theorem atA:ad1 Tryz.prog base where
 tab:=aju aq3
 fn:=apu fns
 ext:=aug exts
 Q8:=alV (P:=Tryz.prog) (ng:=2) ape
 mixed:=by kernel_rfl
theorem apR:ahW vb aoM:=⟨fun args H r H' h=>arb (b:=base) (g:=1) rfl rfl h,fun args H r H' h=>apD (b:=base) rfl h,trivial⟩
theorem avF:agO vb where
 zero:=aqY (aju aq3)
 sl:=avv (aju aq3)
 gd:=fun g cs h=>by cases h
 pos:=anp (by kernel_rfl)
 aqC:=fun f h=>aku (f:=f) (l:=aoM) (l':=aoB) rfl h
 Q8:=akG apR
end Go.Proofs.YtmokcpfbeggigaaGreatDoor.Q
