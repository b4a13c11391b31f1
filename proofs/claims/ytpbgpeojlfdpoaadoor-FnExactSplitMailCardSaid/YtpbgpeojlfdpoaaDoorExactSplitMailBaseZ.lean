/- The program's functions, types and marks, as the machines take them. -/
import Derived.Test.YtpbgpeojlfdpoaaDoorProg
import Derived.Test.YtpbgpeojlfdpoaaDoorFnExactSplitMailK4
import Derived.KernelRfl
namespace Go.Proofs.YtpbgpeojlfdpoaaDoor.Q
open Go Go.AM Go.Proofs Go.Shelf
set_option linter.unusedVariables false
def Q8:Nat:=3
def V7:Nat:=4
def P0:Nat:=13
def Q5:Nat:=6
def V1:Nat:=16
def O8:Nat:=5
def S4:Nat:=14
def aar:Nat:=27
def abi:Nat:=34
def abJ:Nat:=43
def aaW:Nat:=51
def adw:Nat:=62
def O6:Nat:=35
def aaZ:Nat:=44
def U8:Nat:=70
def Z3:Nat:=71
def acG:Nat:=76
def V2:Nat:=52
def ab7:Nat:=77
def K0:Nat:=82
def abf:Nat:=83
def acH:Nat:=86
def Y4:Nat:=84
def abK:Nat:=78
def aa9:Nat:=29
def P4:Nat:=28
def N0:Nat:=15
def aaI:Nat:=30
def H6:Nat:=7
def abe:Nat:=17
def aaw:Nat:=31
def acK:Nat:=36
def aa5:Nat:=39
def aaQ:Nat:=33
def N3:Nat:=42
def F8:Nat:=50
def I2:Nat:=58
def acs:Nat:=46
def R6:Nat:=53
def R9:Nat:=63
def ahk:Nat:=72
def abn:Nat:=79
def abD:Nat:=73
def abP:Nat:=74
def u5:Nat:=37
def G4:Nat:=45
def U9:Nat:=54
def abg:Nat:=55
def Y2:Nat:=64
def S9:Nat:=65
def abS:Nat:=75
def T1:Nat:=67
def abL:Nat:=47
def S7:Nat:=56
def aca:Nat:=57
def V0:Nat:=66
def Q0:Nat:=38
def abN:Nat:=40
def T2:Nat:=48
def abh:Nat:=49
def aaM:Nat:=18
def D8:Nat:=22
def H4:Nat:=32
def I7:Nat:=41
def E7:Nat:=20
def Y6:Nat:=21
def A4:Nat:=19
def N6:Nat:=8
def W5:Nat:=9
def U4:Nat:=23
def abO:Nat:=10
def I1:Nat:=24
def D3:Nat:=25
def abd:Nat:=11
def L1:Nat:=12
def M3:Nat:=26
noncomputable def awS:List (Nat × TI):=[
 (24,⟨.struct [(0,1,false),(1,1,false),(2,1,false)],true,3,[(.string (bs [])),(.slice none 0 0),(.slice none 0 0)]⟩),
 (3,⟨.int .i64,false,1,[(.int .i64 0)]⟩),
 (29,⟨.struct [(0,1,false),(1,1,false),(2,1,false)],true,3,[(.string (bs [])),(.slice none 0 0),(.slice none 0 0)]⟩),
 (26,⟨.slice 29 3 64 [(.string (bs [])),(.slice none 0 0),(.slice none 0 0)],false,1,[(.slice none 0 0)]⟩),
 (4,⟨.bool,false,1,[(.bool false)]⟩),
 (9,⟨.str,false,1,[(.string (bs []))]⟩),
 (22,⟨.slice 9 1 16 [(.string (bs []))],false,1,[(.slice none 0 0)]⟩),
 (66,⟨.struct [(0,1,false),(1,1,false),(2,1,false)],true,3,[(.string (bs [])),(.string (bs [])),(.string (bs []))]⟩),
 (5,⟨.int .u8,false,1,[(.int .u8 0)]⟩),
 (51,⟨.slice 5 1 1 [(.int .u8 0)],false,1,[(.slice none 0 0)]⟩),
 (39,⟨.other,false,1,[.nilFunc]⟩),
 (53,⟨.other,false,1,[.nilFunc]⟩),
 (72,⟨.int .u32,false,1,[(.int .u32 0)]⟩),
 (21,⟨.int .i32,false,1,[(.int .i32 0)]⟩),
 (81,⟨.arr 256 1,true,256,[(.int .u8 0),(.int .u8 0),(.int .u8 0),(.int .u8 0),(.int .u8 0),(.int .u8 0),(.int .u8 0),(.int .u8 0),(.int .u8 0),(.int .u8 0),(.int .u8 0),(.int .u8 0),(.int .u8 0),(.int .u8 0),(.int .u8 0),(.int .u8 0),(.int .u8 0),(.int .u8 0),(.int .u8 0),(.int .u8 0),(.int .u8 0),(.int .u8 0),(.int .u8 0),(.int .u8 0),(.int .u8 0),(.int .u8 0),(.int .u8 0),(.int .u8 0),(.int .u8 0),(.int .u8 0),(.int .u8 0),(.int .u8 0),(.int .u8 0),(.int .u8 0),(.int .u8 0),(.int .u8 0),(.int .u8 0),(.int .u8 0),(.int .u8 0),(.int .u8 0),(.int .u8 0),(.int .u8 0),(.int .u8 0),(.int .u8 0),(.int .u8 0),(.int .u8 0),(.int .u8 0),(.int .u8 0),(.int .u8 0),(.int .u8 0),(.int .u8 0),(.int .u8 0),(.int .u8 0),(.int .u8 0),(.int .u8 0),(.int .u8 0),(.int .u8 0),(.int .u8 0),(.int .u8 0),(.int .u8 0),(.int .u8 0),(.int .u8 0),(.int .u8 0),(.int .u8 0),(.int .u8 0),(.int .u8 0),(.int .u8 0),(.int .u8 0),(.int .u8 0),(.int .u8 0),(.int .u8 0),(.int .u8 0),(.int .u8 0),(.int .u8 0),(.int .u8 0),(.int .u8 0),(.int .u8 0),(.int .u8 0),(.int .u8 0),(.int .u8 0),(.int .u8 0),(.int .u8 0),(.int .u8 0),(.int .u8 0),(.int .u8 0),(.int .u8 0),(.int .u8 0),(.int .u8 0),(.int .u8 0),(.int .u8 0),(.int .u8 0),(.int .u8 0),(.int .u8 0),(.int .u8 0),(.int .u8 0),(.int .u8 0),(.int .u8 0),(.int .u8 0),(.int .u8 0),(.int .u8 0),(.int .u8 0),(.int .u8 0),(.int .u8 0),(.int .u8 0),(.int .u8 0),(.int .u8 0),(.int .u8 0),(.int .u8 0),(.int .u8 0),(.int .u8 0),(.int .u8 0),(.int .u8 0),(.int .u8 0),(.int .u8 0),(.int .u8 0),(.int .u8 0),(.int .u8 0),(.int .u8 0),(.int .u8 0),(.int .u8 0),(.int .u8 0),(.int .u8 0),(.int .u8 0),(.int .u8 0),(.int .u8 0),(.int .u8 0),(.int .u8 0),(.int .u8 0),(.int .u8 0),(.int .u8 0),(.int .u8 0),(.int .u8 0),(.int .u8 0),(.int .u8 0),(.int .u8 0),(.int .u8 0),(.int .u8 0),(.int .u8 0),(.int .u8 0),(.int .u8 0),(.int .u8 0),(.int .u8 0),(.int .u8 0),(.int .u8 0),(.int .u8 0),(.int .u8 0),(.int .u8 0),(.int .u8 0),(.int .u8 0),(.int .u8 0),(.int .u8 0),(.int .u8 0),(.int .u8 0),(.int .u8 0),(.int .u8 0),(.int .u8 0),(.int .u8 0),(.int .u8 0),(.int .u8 0),(.int .u8 0),(.int .u8 0),(.int .u8 0),(.int .u8 0),(.int .u8 0),(.int .u8 0),(.int .u8 0),(.int .u8 0),(.int .u8 0),(.int .u8 0),(.int .u8 0),(.int .u8 0),(.int .u8 0),(.int .u8 0),(.int .u8 0),(.int .u8 0),(.int .u8 0),(.int .u8 0),(.int .u8 0),(.int .u8 0),(.int .u8 0),(.int .u8 0),(.int .u8 0),(.int .u8 0),(.int .u8 0),(.int .u8 0),(.int .u8 0),(.int .u8 0),(.int .u8 0),(.int .u8 0),(.int .u8 0),(.int .u8 0),(.int .u8 0),(.int .u8 0),(.int .u8 0),(.int .u8 0),(.int .u8 0),(.int .u8 0),(.int .u8 0),(.int .u8 0),(.int .u8 0),(.int .u8 0),(.int .u8 0),(.int .u8 0),(.int .u8 0),(.int .u8 0),(.int .u8 0),(.int .u8 0),(.int .u8 0),(.int .u8 0),(.int .u8 0),(.int .u8 0),(.int .u8 0),(.int .u8 0),(.int .u8 0),(.int .u8 0),(.int .u8 0),(.int .u8 0),(.int .u8 0),(.int .u8 0),(.int .u8 0),(.int .u8 0),(.int .u8 0),(.int .u8 0),(.int .u8 0),(.int .u8 0),(.int .u8 0),(.int .u8 0),(.int .u8 0),(.int .u8 0),(.int .u8 0),(.int .u8 0),(.int .u8 0),(.int .u8 0),(.int .u8 0),(.int .u8 0),(.int .u8 0),(.int .u8 0),(.int .u8 0),(.int .u8 0),(.int .u8 0),(.int .u8 0),(.int .u8 0),(.int .u8 0),(.int .u8 0),(.int .u8 0),(.int .u8 0),(.int .u8 0),(.int .u8 0),(.int .u8 0),(.int .u8 0),(.int .u8 0),(.int .u8 0),(.int .u8 0),(.int .u8 0),(.int .u8 0),(.int .u8 0)]⟩),
 (84,⟨.arr 16 2,true,32,[(.int .u8 0),(.int .u8 0),(.int .u8 0),(.int .u8 0),(.int .u8 0),(.int .u8 0),(.int .u8 0),(.int .u8 0),(.int .u8 0),(.int .u8 0),(.int .u8 0),(.int .u8 0),(.int .u8 0),(.int .u8 0),(.int .u8 0),(.int .u8 0),(.int .u8 0),(.int .u8 0),(.int .u8 0),(.int .u8 0),(.int .u8 0),(.int .u8 0),(.int .u8 0),(.int .u8 0),(.int .u8 0),(.int .u8 0),(.int .u8 0),(.int .u8 0),(.int .u8 0),(.int .u8 0),(.int .u8 0),(.int .u8 0)]⟩),
 (83,⟨.struct [(0,1,false),(1,1,false)],true,2,[(.int .u8 0),(.int .u8 0)]⟩),
 (71,⟨.other,false,1,[.nilFunc]⟩)]
noncomputable def axV:List (Nat × S1):=[
 (3,{ loc:=[1,6],loops:=[],m6:=[(25,27,[(.ret,⟨[2],[],[]⟩),(.normal,⟨[7,10],[],[]⟩)]),(14,16,[(.ret,⟨[2],[],[]⟩),(.normal,⟨[4,5,7],[(1,(1,0))],[(1,3)]⟩)]),(8,10,[(.ret,⟨[2],[],[]⟩),(.normal,⟨[4,5,7,8],[(1,(1,0)),(6,(6,0))],[(1,3),(6,3)]⟩)])],full:=[],o6:=false }),
 (4,{ loc:=[2],loops:=[],m6:=[],full:=[],o6:=false }),
 (13,{ loc:=[],loops:=[(5,⟨⟨[0,1,5],[],[]⟩,[(.exit 0,⟨[1],[],[]⟩),(.ret,⟨[4],[],[]⟩)]⟩)],m6:=[],full:=[],o6:=false }),
 (6,{ loc:=[1,2,3],loops:=[],m6:=[],full:=[],o6:=false }),
 (16,{ loc:=[],loops:=[(3,⟨⟨[0,3,4],[],[]⟩,[(.exit 0,⟨[3],[],[]⟩)]⟩)],m6:=[],full:=[],o6:=false }),
 (5,{ loc:=[1],loops:=[],m6:=[],full:=[],o6:=false }),
 (14,{ loc:=[1,4],loops:=[(7,⟨⟨[6,7,8],[(4,(4,0))],[(4,3)]⟩,[(.exit 0,⟨[6],[],[]⟩)]⟩),(14,⟨⟨[6,7,8,9,10,11],[(4,(4,0))],[(4,3)]⟩,[(.exit 2,⟨[6,7,8,10],[(4,(4,0))],[(4,3)]⟩)]⟩)],m6:=[(9,8,[(.normal,⟨[6,7,8],[(4,(4,0))],[(4,3)]⟩)]),(16,15,[(.normal,⟨[6,7,8,9,10,11],[(4,(4,0))],[(4,3)]⟩)])],full:=[47],o6:=false }),
 (27,{ loc:=[1,2],loops:=[(5,⟨⟨[4,5],[(1,(1,0)),(2,(2,0))],[(1,3),(2,3)]⟩,[(.exit 0,⟨[4],[(2,(2,0))],[(2,3)]⟩)]⟩)],m6:=[(7,6,[(.normal,⟨[4,5],[(1,(1,0)),(2,(2,0))],[(1,3),(2,3)]⟩)])],full:=[15],o6:=false }),
 (34,{ loc:=[1],loops:=[],m6:=[],full:=[],o6:=false }),
 (43,{ loc:=[1],loops:=[(9,⟨⟨[4],[(1,(1,0))],[(1,3)]⟩,[(.exit 2,⟨[],[],[]⟩),(.ret,⟨[2],[],[]⟩)]⟩),(4,⟨⟨[3],[(1,(1,0))],[(1,3)]⟩,[(.exit 0,⟨[],[(1,(1,0))],[(1,3)]⟩),(.ret,⟨[2],[],[]⟩)]⟩)],m6:=[(1,3,[(.ret,⟨[2],[],[]⟩),(.normal,⟨[],[(1,(1,0))],[(1,3)]⟩)])],full:=[],o6:=false }),
 (51,{ loc:=[3],loops:=[],m6:=[],full:=[],o6:=false }),
 (62,{ loc:=[2,7],loops:=[],m6:=[],full:=[],o6:=false }),
 (35,{ loc:=[],loops:=[(2,⟨⟨[0,1,7],[],[]⟩,[(.exit 0,⟨[0],[],[]⟩),(.ret,⟨[4,5,6],[],[]⟩)]⟩)],m6:=[],full:=[],o6:=false }),
 (44,{ loc:=[],loops:=[(3,⟨⟨[0,6,7],[],[]⟩,[(.exit 0,⟨[],[],[]⟩),(.ret,⟨[4,5],[],[]⟩)]⟩)],m6:=[(5,4,[(.ret,⟨[4,5],[],[]⟩),(.normal,⟨[0,6,7],[],[]⟩)]),(7,11,[(.ret,⟨[4,5],[],[]⟩),(.normal,⟨[0,6,7],[],[]⟩)])],full:=[],o6:=false }),
 (70,{ loc:=[],loops:=[(3,⟨⟨[3,4],[],[]⟩,[(.exit 0,⟨[3],[],[]⟩)]⟩)],m6:=[(5,4,[(.normal,⟨[3,4],[],[]⟩)])],full:=[],o6:=false }),
 (71,{ loc:=[1],loops:=[],m6:=[],full:=[],o6:=false }),
 (76,{ loc:=[],loops:=[],m6:=[],full:=[],o6:=false }),
 (52,{ loc:=[],loops:=[(2,⟨⟨[0,3],[],[]⟩,[(.exit 0,⟨[0],[],[]⟩),(.ret,⟨[2],[],[]⟩)]⟩)],m6:=[(4,3,[(.ret,⟨[2],[],[]⟩),(.normal,⟨[0,3],[],[]⟩)]),(2,4,[(.normal,⟨[0,3],[],[]⟩),(.exit 0,⟨[0],[],[]⟩)])],full:=[],o6:=false }),
 (77,{ loc:=[],loops:=[(3,⟨⟨[0,3,4],[],[]⟩,[(.exit 0,⟨[0],[],[]⟩),(.ret,⟨[2],[],[]⟩)]⟩)],m6:=[],full:=[],o6:=false }),
 (82,{ loc:=[],loops:=[(4,⟨⟨[0,1,5,6,7],[],[]⟩,[(.exit 0,⟨[0,5,6],[],[]⟩)]⟩)],m6:=[(6,5,[(.normal,⟨[0,1,5,6,7],[],[]⟩)])],full:=[],o6:=false }),
 (83,{ loc:=[],loops:=[(2,⟨⟨[0,3],[],[]⟩,[(.exit 0,⟨[0],[],[]⟩),(.ret,⟨[2],[],[]⟩)]⟩)],m6:=[(2,4,[(.normal,⟨[0,3],[],[]⟩),(.exit 0,⟨[0],[],[]⟩)])],full:=[],o6:=false }),
 (86,{ loc:=[],loops:=[(2,⟨⟨[0,3],[],[]⟩,[(.exit 0,⟨[0],[],[]⟩),(.ret,⟨[2],[],[]⟩)]⟩)],m6:=[],full:=[],o6:=false }),
 (84,{ loc:=[],loops:=[],m6:=[],full:=[],o6:=false }),
 (78,{ loc:=[],loops:=[(3,⟨⟨[0,3,4],[],[]⟩,[(.exit 0,⟨[0],[],[]⟩),(.ret,⟨[2],[],[]⟩)]⟩),(9,⟨⟨[0,3,4,5,6],[],[]⟩,[(.exit 2,⟨[0,3,4],[],[]⟩),(.ret,⟨[2],[],[]⟩)]⟩)],m6:=[(5,4,[(.ret,⟨[2],[],[]⟩),(.normal,⟨[0,3,4],[],[]⟩)]),(11,10,[(.ret,⟨[2],[],[]⟩),(.normal,⟨[0,3,4,5,6],[],[]⟩)]),(6,8,[(.ret,⟨[2],[],[]⟩),(.normal,⟨[0,3,4,5],[],[]⟩)])],full:=[],o6:=false }),
 (29,{ loc:=[],loops:=[(2,⟨⟨[0,1,5],[],[]⟩,[(.exit 0,⟨[],[],[]⟩),(.ret,⟨[4],[],[]⟩)]⟩)],m6:=[],full:=[],o6:=false }),
 (28,{ loc:=[],loops:=[],m6:=[],full:=[],o6:=false }),
 (15,{ loc:=[5],loops:=[(3,⟨⟨[3,7,8,9],[],[]⟩,[(.exit 0,⟨[3],[],[]⟩)]⟩)],m6:=[],full:=[],o6:=false }),
 (30,{ loc:=[1,2],loops:=[],m6:=[],full:=[6,11],o6:=false }),
 (7,{ loc:=[1],loops:=[(5,⟨⟨[4,14,15,16],[(1,(1,0))],[(1,3)]⟩,[(.exit 0,⟨[4],[],[]⟩)]⟩)],m6:=[],full:=[],o6:=false }),
 (17,{ loc:=[1],loops:=[],m6:=[],full:=[],o6:=false }),
 (31,{ loc:=[3],loops:=[],m6:=[],full:=[],o6:=false }),
 (36,{ loc:=[],loops:=[],m6:=[],full:=[],o6:=false }),
 (39,{ loc:=[],loops:=[],m6:=[],full:=[],o6:=false }),
 (33,{ loc:=[],loops:=[],m6:=[],full:=[],o6:=false }),
 (42,{ loc:=[],loops:=[],m6:=[],full:=[],o6:=false }),
 (50,{ loc:=[],loops:=[(15,⟨⟨[0,1,5,6,7,8,9,10],[],[]⟩,[(.exit 1,⟨[],[],[]⟩),(.ret,⟨[4],[],[]⟩)]⟩)],m6:=[(21,23,[(.ret,⟨[4],[],[]⟩),(.normal,⟨[0,1,5,6,7,8,9,10],[],[]⟩)]),(16,21,[(.ret,⟨[4],[],[]⟩),(.normal,⟨[0,1,5,6,7,8,9,10],[],[]⟩)]),(2,10,[(.ret,⟨[4],[],[]⟩),(.normal,⟨[0,1,5],[],[]⟩)])],full:=[],o6:=false }),
 (58,{ loc:=[],loops:=[],m6:=[],full:=[],o6:=false }),
 (60,{ loc:=[],loops:=[],m6:=[],full:=[],o6:=false }),
 (61,{ loc:=[],loops:=[(11,⟨⟨[0,1,5,6,7,8,10],[],[]⟩,[(.exit 2,⟨[],[],[]⟩),(.ret,⟨[4],[],[]⟩)]⟩),(5,⟨⟨[0,1,5,6,7,8,9],[],[]⟩,[(.exit 0,⟨[0,1,5,6,7,8],[],[]⟩)]⟩)],m6:=[(8,10,[(.ret,⟨[4],[],[]⟩),(.normal,⟨[0,1,5,6,7,8],[],[]⟩)])],full:=[],o6:=false }),
 (69,{ loc:=[],loops:=[(8,⟨⟨[4,6,7,8],[],[]⟩,[(.exit 2,⟨[4,6],[],[]⟩)]⟩),(3,⟨⟨[0,4,5],[],[]⟩,[(.exit 0,⟨[0,4],[],[]⟩)]⟩)],m6:=[(10,9,[(.normal,⟨[4,6,7,8],[],[]⟩)]),(10,12,[(.normal,⟨[4,6,7,8],[],[]⟩)])],full:=[],o6:=false }),
 (46,{ loc:=[],loops:=[],m6:=[],full:=[],o6:=false }),
 (53,{ loc:=[],loops:=[],m6:=[],full:=[],o6:=false }),
 (63,{ loc:=[],loops:=[(11,⟨⟨[0,1,2,3,9,10],[],[]⟩,[(.exit 0,⟨[0,9,10],[],[]⟩)]⟩)],m6:=[(5,7,[(.normal,⟨[0,1,2,3],[],[]⟩)])],full:=[],o6:=false }),
 (72,{ loc:=[],loops:=[(6,⟨⟨[0,1,6,7],[],[]⟩,[(.exit 0,⟨[0,1,6],[],[]⟩)]⟩)],m6:=[(2,4,[(.normal,⟨[0,1],[],[]⟩)])],full:=[],o6:=false }),
 (79,{ loc:=[],loops:=[],m6:=[],full:=[],o6:=false }),
 (80,{ loc:=[],loops:=[],m6:=[],full:=[],o6:=false }),
 (85,{ loc:=[9],loops:=[],m6:=[],full:=[],o6:=false }),
 (73,{ loc:=[],loops:=[(6,⟨⟨[0,1,5],[],[]⟩,[(.ret,⟨[4],[],[]⟩)]⟩)],m6:=[],full:=[],o6:=false }),
 (74,{ loc:=[],loops:=[],m6:=[],full:=[],o6:=false }),
 (37,{ loc:=[],loops:=[],m6:=[],full:=[],o6:=false }),
 (45,{ loc:=[],loops:=[(2,⟨⟨[0,1,7,8],[],[]⟩,[(.exit 0,⟨[],[],[]⟩),(.ret,⟨[4],[],[]⟩)]⟩)],m6:=[],full:=[],o6:=true }),
 (54,{ loc:=[],loops:=[],m6:=[],full:=[],o6:=false }),
 (55,{ loc:=[],loops:=[],m6:=[],full:=[],o6:=false }),
 (64,{ loc:=[],loops:=[(2,⟨⟨[0,1,7,8],[],[]⟩,[(.exit 0,⟨[],[],[]⟩),(.ret,⟨[4],[],[]⟩)]⟩)],m6:=[],full:=[],o6:=true }),
 (65,{ loc:=[],loops:=[],m6:=[],full:=[],o6:=false }),
 (75,{ loc:=[],loops:=[],m6:=[],full:=[],o6:=false }),
 (67,{ loc:=[],loops:=[],m6:=[],full:=[],o6:=false }),
 (47,{ loc:=[],loops:=[],m6:=[],full:=[],o6:=false }),
 (56,{ loc:=[],loops:=[],m6:=[],full:=[],o6:=false }),
 (57,{ loc:=[],loops:=[],m6:=[],full:=[],o6:=false }),
 (66,{ loc:=[],loops:=[],m6:=[],full:=[],o6:=false }),
 (38,{ loc:=[],loops:=[],m6:=[],full:=[],o6:=false }),
 (40,{ loc:=[],loops:=[],m6:=[],full:=[],o6:=false }),
 (48,{ loc:=[],loops:=[],m6:=[],full:=[],o6:=false }),
 (49,{ loc:=[],loops:=[(2,⟨⟨[0,5,6],[],[]⟩,[(.exit 0,⟨[0],[],[]⟩),(.ret,⟨[2],[],[]⟩)]⟩)],m6:=[],full:=[],o6:=false }),
 (18,{ loc:=[1,2],loops:=[(3,⟨⟨[3,13,14,15],[(2,(2,0))],[(2,3)]⟩,[(.exit 0,⟨[3],[(2,(2,0))],[(2,3)]⟩)]⟩)],m6:=[],full:=[],o6:=false }),
 (22,{ loc:=[],loops:=[],m6:=[],full:=[7],o6:=false }),
 (32,{ loc:=[],loops:=[],m6:=[],full:=[],o6:=false }),
 (41,{ loc:=[],loops:=[(2,⟨⟨[0,1,7,8],[],[]⟩,[(.exit 0,⟨[],[],[]⟩),(.ret,⟨[4],[],[]⟩)]⟩)],m6:=[],full:=[],o6:=false }),
 (20,{ loc:=[2],loops:=[],m6:=[],full:=[],o6:=false }),
 (21,{ loc:=[],loops:=[],m6:=[],full:=[],o6:=false }),
 (19,{ loc:=[],loops:=[(2,⟨⟨[0,1,7,8],[],[]⟩,[(.exit 0,⟨[],[],[]⟩),(.ret,⟨[4],[],[]⟩)]⟩)],m6:=[],full:=[],o6:=true }),
 (8,{ loc:=[],loops:=[(4,⟨⟨[0,1,5],[],[]⟩,[(.exit 0,⟨[],[],[]⟩),(.ret,⟨[4],[],[]⟩)]⟩)],m6:=[],full:=[],o6:=false }),
 (9,{ loc:=[2,3],loops:=[],m6:=[],full:=[],o6:=false }),
 (23,{ loc:=[],loops:=[(4,⟨⟨[0,1,5],[],[]⟩,[(.exit 0,⟨[],[],[]⟩),(.ret,⟨[4],[],[]⟩)]⟩)],m6:=[],full:=[],o6:=false }),
 (10,{ loc:=[2],loops:=[],m6:=[],full:=[],o6:=false }),
 (24,{ loc:=[],loops:=[(2,⟨⟨[0,1,5],[],[]⟩,[(.exit 0,⟨[1],[],[]⟩)]⟩)],m6:=[],full:=[],o6:=false }),
 (25,{ loc:=[],loops:=[(4,⟨⟨[0,3],[],[]⟩,[(.exit 0,⟨[3],[],[]⟩)]⟩)],m6:=[],full:=[],o6:=false }),
 (11,{ loc:=[],loops:=[(2,⟨⟨[0,1,5],[],[]⟩,[(.exit 0,⟨[1],[],[]⟩)]⟩)],m6:=[],full:=[],o6:=false }),
 (12,{ loc:=[],loops:=[(2,⟨⟨[0,1,5],[],[]⟩,[(.exit 0,⟨[1],[],[]⟩),(.ret,⟨[4],[],[]⟩)]⟩)],m6:=[],full:=[],o6:=false }),
 (26,{ loc:=[],loops:=[(2,⟨⟨[0,1,5],[],[]⟩,[(.exit 0,⟨[1],[],[]⟩),(.ret,⟨[4],[],[]⟩)]⟩)],m6:=[],full:=[],o6:=false })]
noncomputable def fnB:List (Nat × Func):=[
 (3,Tryd.f3),(4,Tryd.f4),(13,Tryd.f13),(6,Tryd.f6),(16,Tryd.f16),(5,Tryd.f5),(14,Tryd.f14),(27,Tryd.f27),(34,Tryd.f34),(43,Tryd.f43),(51,Tryd.f51),(62,Tryd.f62),(35,Tryd.f35),(44,Tryd.f44),(70,Tryd.f70),(71,Tryd.f71),(76,Tryd.f76),(52,Tryd.f52),(77,Tryd.f77),(82,Tryd.f82),(83,Tryd.f83),(86,Tryd.f86),(84,Tryd.f84),(78,Tryd.f78),(29,Tryd.f29),(28,Tryd.f28),(15,Tryd.f15),(30,Tryd.f30),(7,Tryd.f7),(17,Tryd.f17),(31,Tryd.f31),(36,Tryd.f36),(39,Tryd.f39),(33,Tryd.f33),(42,Tryd.f42),(50,Tryd.f50),(58,Tryd.f58),(60,Tryd.f60),(61,Tryd.f61),(69,Tryd.f69),(46,Tryd.f46),(53,Tryd.f53),(63,Tryd.f63),(72,Tryd.f72),(79,Tryd.f79),(80,Tryd.f80),(85,Tryd.f85),(73,Tryd.f73),(74,Tryd.f74),(37,Tryd.f37),(45,Tryd.f45),(54,Tryd.f54),(55,Tryd.f55),(64,Tryd.f64),(65,Tryd.f65),(75,Tryd.f75),(67,Tryd.f67),(47,Tryd.f47),(56,Tryd.f56),(57,Tryd.f57),(66,Tryd.f66),(38,Tryd.f38),(40,Tryd.f40),(48,Tryd.f48),(49,Tryd.f49),(18,Tryd.f18),(22,Tryd.f22),(32,Tryd.f32),(41,Tryd.f41),(20,Tryd.f20),(21,Tryd.f21),(19,Tryd.f19),(8,Tryd.f8),(9,Tryd.f9),(23,Tryd.f23),(10,Tryd.f10),(24,Tryd.f24),(25,Tryd.f25),(11,Tryd.f11),(12,Tryd.f12),(26,Tryd.f26)]
def axb:List Nat:=[3,4,13,34,43,51,35,44,70,71,76,52,77,83,86,84,78,29,28,17,31,36,39,33,42,50,58,60,61,69,46,79,80,85,73,74,37,45,54,55,64,65,75,67,47,56,57,66,38,40,48,49,32,41,21,19,8,9,23,25,12,26]
def axA:List Nat:=[5,62,82,15,30,7,53,63,72,22]
def avK:List (Nat × List Nat):=[(3,[2,3,15,3,17,2,19,5,28,27,8,36,37,38,2,2,9,47,9,49,51,57,58,59,2,10,63,10,11,66,11,68,2,70,71,2,73,13,83,84,85,2,11,89,11,91,2,93,94,2,2,2000016,2000021,2000022,2000026,2000029,6000029,2000034,2000043,2000044,2000048,2000054,2000064,2000067,2000075,2000076,6000076,2000081,2000090]),(4,[4,5,1,10,4,14,1,16,4,20,1,22,4,24,4]),(13,[4,6,1,10,4,5,12,18,20,1,25,4,16,5,27,4]),(6,[15]),(16,[2,3,4,8,15,17,12,4,21,2]),(5,[2,3,7,6,5,13,2,3]),(14,[2,3,13,12,15,5,6,18,20,2,3,7,8,22,31,9,36,38,39,7,46,11,49,58,62,65,68,54,11,74,75,6,27,8,78,2,3]),(27,[3,3,14,5,17,28,34,37,22,5,43,3]),(34,[2,5,11,2]),(43,[2,8,14,20,2,3,26,35,2,31,3,4,40,49,2,45,4,2]),(51,[2,6,5,4,10,11,18,2]),(62,[3,9,8,4,5,6,14,15,19,20,3]),(35,[4,5,6,7,10,11,14,15,19,20,18,8,9,24,26,4,5,6,27,7,28,29,31,33,34,36,37,4,5,6,40,7,42,4,5,6]),(44,[4,5,6,8,7,10,11,16,17,20,21,4,5,23,24,27,7,29,30,4,5,33,34,35,36,6,14,7,4,5]),(70,[2,5,4,7,14,18,20,26,28,11,4,2]),(71,[2,6,12,17,23,2]),(76,[2,3,5,6,2]),(52,[2,3,4,5,8,9,14,15,18,19,20,2,12,3,24,2]),(77,[2,5,4,7,14,2,11,4,19,2]),(82,[4,5,6,7,9,10,15,16,18,20,21,22,23,5,27,6,13,7,29,30,31,4]),(83,[2,3,4,5,8,9,14,15,2,12,3,19,22,23,2]),(86,[2,3,4,8,9,2,6,3,12,2]),(84,[2,3,5,6,9,10,12,13,17,18,20,21,2]),(78,[2,7,4,9,16,5,19,21,22,26,27,28,2,6,34,35,40,41,45,46,47,51,52,53,56,57,58,2,38,6,13,4,63,2]),(29,[4,5,6,13,16,4,10,5,4]),(28,[2,7,6,3,4,5,12,2]),(15,[2,3,9,13,3,9,19,2]),(30,[5,10,13]),(7,[2,3,2,3,4,12,16,7,23,25,4,37,39,42,16,49,2,3,2000009,2000013,2000022,2000032,2000035,1000035,2000045,1000045]),(17,[2,2]),(31,[6,10,14,17,23,29,32,6]),(36,[2,3,5,6,2]),(39,[2,7,6,3,4,5,12,13,14,17,18,2]),(33,[4,5,6,7,8,4,5,6]),(42,[4,5,6,8,9,7,11,13,14,16,17,18,4,5,6,22,4,5,6]),(50,[4,14,5,17,19,20,21,16,4,25,24,27,28,4,32,33,31,4,37,40,41,36,45,46,4,48,6,50,7,8,52,54,9,10,57,58,60,61,63,65,66,68,70,11,72,4,74,75,8,78,79,82,84,85,86,87,88,91,94,4,95,8,97,10,99,102,103,104,108,109,111,12,113,115,116,4,4,118,121,122,123,128,129,130,133,134,136,13,138,4,140,141,4,4]),(58,[4,5,6,4]),(60,[2,3,2]),(61,[4,12,11,5,6,16,7,8,9,18,19,23,25,26,8,21,9,30,31,33,34,35,37,4,40,10,41,42,45,8,47,48,49,8,53,54,55,56,57,8,63,10,65,66,68,69,70,71,73,75,78,79,4,4]),(69,[2,3,4,5,9,10,15,17,18,4,13,5,6,7,22,8,24,28,31,32,6,34,35,7,26,8,37,38,2,3]),(46,[2,3,6,7,2]),(53,[4,5,6,4,2000007,6000007]),(63,[8,12,8,14,16,17,8,19,21,22,3,25,26,3,30,32,3,10,34,35,37,38,11,40,43,44,45,46,50,51,52,0,56,10,59,60,63,8]),(72,[4,10,5,12,14,15,16,19,1,20,6,7,22,23,29,28,8,9,34,35,36,39,40,0,26,7,42,45,47,49,4]),(79,[2,3,7,2,9,2]),(80,[2,3,4,6,7,11,2,3,15,14,2,3]),(85,[2,3,13,4,15,2,3,17,5,19,6,22,24,7,28,31,33,2,3,36,8,39,43,44,2,3,46,10,48,52,55,2,3,58,60,64,2,3,68,11,70,72,73,2,3,76,78,82,87,2,3,91,12,93,95,96,2,3,99,103,108,113,2,3]),(73,[4,7,10,4,13,16,17,4,5,20,21,6,23,25,4,26,5,28,29,30,0]),(74,[4,5,6,4]),(37,[4,6,4]),(45,[4,8,10,5,11,13,17,4,8,4]),(54,[2,3,2]),(55,[2,3,6,7,11,12,2]),(64,[4,6,8,10,5,11,12,13,4,8,4]),(65,[2,3,5,6,9,10,13,14,16,17,21,22,25,26,29,30,33,34,37,38,41,42,45,46,48,49,53,54,56,57,2]),(75,[2,3,5,6,9,10,12,13,2]),(67,[2,3,5,6,2]),(47,[2,3,6,7,2]),(56,[2,3,2]),(57,[2,3,5,6,10,11,12,18,19,2]),(66,[2,3,5,6,9,10,13,14,2]),(38,[2,3,2]),(40,[4,7,9,4]),(48,[2,3,2]),(49,[2,4,6,8,3,9,10,13,14,15,2,6,20,2]),(18,[15,5,21,25,26,15,31]),(22,[2,2,6,2]),(32,[4,6,4]),(41,[4,8,10,5,11,13,17,4,8,4]),(20,[3,3]),(21,[2,7,6,3,4,5,12,2]),(19,[4,8,10,5,11,13,17,4,8,4]),(8,[4,4,5,11,18,22,4,15,5,4]),(9,[4,4,4,4,4]),(23,[4,4,5,11,18,22,4,15,5,4]),(10,[4,7,1,11,1,13,4]),(24,[4,5,6,13,14,17,1,10,5,19,4]),(25,[2,4,2,3,6,8,14,3,16,0,18,2]),(11,[4,5,6,13,14,18,1,21,25,1,28,32,1,10,5,34,4]),(12,[4,5,6,13,17,4,20,1,23,27,1,29,4,32,36,1,38,4,10,5,40,4]),(26,[4,5,6,13,16,4,19,1,10,5,21,4])]
def mvB:List (Nat × List Nat):=[(5,[0]),(14,[0]),(27,[0]),(7,[0]),(18,[0])]
def aqm:List (Nat × Nat):=[(68,0),(59,2),(81,1)]
noncomputable def aqo:List (Nat × (List Value->Heap->Option (Value × Heap))):=[]
noncomputable def ap2:List (Nat × (List V->VH->Option (V × VH))):=[]
noncomputable def base:ab9 where
 ng:=0
 tab:=awS
 fn:=Go.AM.look fnB
 E2:=axD axV
 kind:=aqb axb axA aqm
 ext:=an8
 aap:=fun f=>Go.AM.look aqo f
def o7:Nat->Option (List V):=fun _=>none
noncomputable def vb:U0 where
 b:=base
 G9:=o7
 A0:=asu avK
 mv:=asu mvB
 aap:=fun f=>Go.AM.look ap2 f
noncomputable def cv:p9:=O0 vb
noncomputable def pc:FuncId->List V->Option V:=U2 cv
noncomputable def qc:FuncId->List V->Option V:=I3 cv
noncomputable def pco:FuncId->VH->List V->Option V:=S6 cv
noncomputable def pcg:FuncId->VH->List V->Option (V × VH):=aaC cv
noncomputable def qco:FuncId->VH->List V->Option V:=G8 cv
set_option maxRecDepth 100000 in
theorem fns:aqK Tryd.prog fnB:=by
 unfold fnB
 refine ⟨⟨rfl,by kernel_rfl⟩,⟨rfl,by kernel_rfl⟩,⟨rfl,by kernel_rfl⟩,⟨rfl,by kernel_rfl⟩,⟨rfl,by kernel_rfl⟩,⟨rfl,by kernel_rfl⟩,⟨rfl,by kernel_rfl⟩,⟨rfl,by kernel_rfl⟩,⟨rfl,by kernel_rfl⟩,⟨rfl,by kernel_rfl⟩,⟨rfl,by kernel_rfl⟩,⟨rfl,by kernel_rfl⟩,⟨rfl,by kernel_rfl⟩,⟨rfl,by kernel_rfl⟩,⟨rfl,by kernel_rfl⟩,⟨rfl,by kernel_rfl⟩,⟨rfl,by kernel_rfl⟩,⟨rfl,by kernel_rfl⟩,⟨rfl,by kernel_rfl⟩,⟨rfl,by kernel_rfl⟩,⟨rfl,by kernel_rfl⟩,⟨rfl,by kernel_rfl⟩,⟨rfl,by kernel_rfl⟩,⟨rfl,by kernel_rfl⟩,⟨rfl,by kernel_rfl⟩,⟨rfl,by kernel_rfl⟩,⟨rfl,by kernel_rfl⟩,⟨rfl,by kernel_rfl⟩,⟨rfl,by kernel_rfl⟩,⟨rfl,by kernel_rfl⟩,⟨rfl,by kernel_rfl⟩,⟨rfl,by kernel_rfl⟩,⟨rfl,by kernel_rfl⟩,⟨rfl,by kernel_rfl⟩,⟨rfl,by kernel_rfl⟩,⟨rfl,by kernel_rfl⟩,⟨rfl,by kernel_rfl⟩,⟨rfl,by kernel_rfl⟩,⟨rfl,by kernel_rfl⟩,⟨rfl,by kernel_rfl⟩,⟨rfl,by kernel_rfl⟩,⟨rfl,by kernel_rfl⟩,⟨rfl,by kernel_rfl⟩,⟨rfl,by kernel_rfl⟩,⟨rfl,by kernel_rfl⟩,⟨rfl,by kernel_rfl⟩,⟨rfl,by kernel_rfl⟩,⟨rfl,by kernel_rfl⟩,⟨rfl,by kernel_rfl⟩,⟨rfl,by kernel_rfl⟩,⟨rfl,by kernel_rfl⟩,⟨rfl,by kernel_rfl⟩,⟨rfl,by kernel_rfl⟩,⟨rfl,by kernel_rfl⟩,⟨rfl,by kernel_rfl⟩,⟨rfl,by kernel_rfl⟩,⟨rfl,by kernel_rfl⟩,⟨rfl,by kernel_rfl⟩,⟨rfl,by kernel_rfl⟩,⟨rfl,by kernel_rfl⟩,⟨rfl,by kernel_rfl⟩,⟨rfl,by kernel_rfl⟩,⟨rfl,by kernel_rfl⟩,⟨rfl,by kernel_rfl⟩,⟨rfl,by kernel_rfl⟩,⟨rfl,by kernel_rfl⟩,⟨rfl,by kernel_rfl⟩,⟨rfl,by kernel_rfl⟩,⟨rfl,by kernel_rfl⟩,⟨rfl,by kernel_rfl⟩,⟨rfl,by kernel_rfl⟩,⟨rfl,by kernel_rfl⟩,⟨rfl,by kernel_rfl⟩,⟨rfl,by kernel_rfl⟩,⟨rfl,by kernel_rfl⟩,⟨rfl,by kernel_rfl⟩,⟨rfl,by kernel_rfl⟩,⟨rfl,by kernel_rfl⟩,⟨rfl,by kernel_rfl⟩,⟨rfl,by kernel_rfl⟩,⟨rfl,by kernel_rfl⟩,trivial⟩
theorem asU:amk Tryd.prog awS=true:=by kernel_rfl
theorem exts:agL Tryd.prog aqm:=by
 unfold aqm
 exact ⟨fun args w=>Go.run_callFunc_extern (fn:=Tryd.f68) (e:=Extern.BytealgIndexByte.indexByte) (by kernel_rfl) (by kernel_rfl) (by kernel_rfl) (by kernel_rfl) (by kernel_rfl) args w,trivial,fun args w=>Go.run_callFunc_extern (fn:=Tryd.f81) (e:=Extern.BytealgCount.count) (by kernel_rfl) (by kernel_rfl) (by kernel_rfl) (by kernel_rfl) (by kernel_rfl) args w,trivial⟩
theorem aq2:ali Tryd.prog 0 aqo:=trivial
theorem avo:afy Tryd.prog base where
 tab:=ajO asU
 fn:=asc fns
 ext:=awu exts
 aap:=an5 (P:=Tryd.prog) (ng:=0) aq2
 mixed:=by kernel_rfl
theorem asq:aiL vb ap2:=trivial
theorem axH:ahO vb where
 zero:=asQ (ajO asU)
 sl:=av6 (ajO asU)
 gd:=fun g cs h=>by cases h
 pos:=apf (by kernel_rfl)
 arV:=fun f h=>alr (f:=f) (l:=ap2) (l':=aqo) rfl h
 aap:=alM asq
end Go.Proofs.YtpbgpeojlfdpoaaDoor.Q
