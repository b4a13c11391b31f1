/- Part 1 of the machines: what is proved is told at each theorem; no condition. -/
import Derived.Tactics
import Derived.Orders
import Derived.Below
import Derived.Deep.AppendSrc
import Derived.Laws.BytesArg
import Derived.Laws.MakeOwn
import Derived.Laws.Append
import Derived.Laws.Build
import Derived.Laws.Tables
import Derived.Laws.Cover3
import Derived.Laws.Small
import Derived.Laws.StructEq
import Derived.Laws.IdiomStrings
/- The abstract machine: a deterministic reading of the kit's code over an abstract heap, with local variables kept apart. -/
namespace Go.AM
inductive avW where | ro | rw | gone
 deriving DecidableEq
structure j4 where
 cells:List Value
 sz:Nat
 md:avW
 j1:Nat
 pl:Bool
abbrev Heap:=List j4
inductive EV where
 | val (v:Value)
 | loc (k off:Nat)
 | B4
structure St where
 env:List (Nat × EV)
 loc:List (Nat × List Value)
 hp:Heap
def look {α:Type}:List (Nat × α)->Nat->Option α
 | [],_=>none
 | (k,v)::l,s=>match Nat.beq k s with | true=>some v | false=>look l s
def U1:List (Nat × List Value)->Nat->List Value->List (Nat × List Value)
 | [],_,_=>[]
 | (k,c)::l,s,d=>match Nat.beq k s with | true=>(k,d)::l | false=>(k,c)::U1 l s d
def acb (env:List (Nat × EV)) (dst:Option Tmp) (e:EV):List (Nat × EV) :=
 match dst with | some d=>(d,e)::env | none=>env
inductive TK where
 | int (k:IntKind) | bool | str
 | slice (e b8 ebytes:Nat) (zero:List Value)
 | struct (fs:List (Nat × Nat × Bool))
 | arr (n b8:Nat)
 | other
structure TI where
 k:TK
 agg:Bool
 size:Nat
 zero:List Value
def avz:Value->Bool | .string _=>true | _=>false
def TI.eqs (ti:TI):Bool:=match ti.k with | .struct _=>ti.zero.all avz | _=>false
inductive A8 where
 | P | L (k:Nat) | S (k:Nat) | N (k:Nat) | H | A | W
structure E9 where
 vs:List Nat
 ls:List (Nat × Nat × Nat)
 cs:List (Nat × Nat)
structure aiv where
 ks:E9
 outs:List (Exit × E9)
structure M5 where
 loc:List Nat:=[]
 loops:List (Nat × aiv):=[]
 p8:List (Nat × Nat × List (Exit × E9)):=[]
 full:List Nat:=[]
 y2:Bool:=false
def mem:List Nat->Nat->Bool
 | [],_=>false
 | k::l,s=>match Nat.beq k s with | true=>true | false=>mem l s
def aos (v:Value):Option Value:=match v with | .agg _=>none | .tuple _=>none | v=>some v
def afR (n:Nat) (v:Value):Option (List Value):=match v with | .agg cs=>if cs.size=n then some cs.toList else none | _=>none
def aaz:Nat->Nat->List Value->List Value
 | _,0,_=>[]
 | i,n+1,cs=>cs.getD i undef::aaz (i+1) n cs
def N0 {R:Type} (agg:Bool) (n:Nat) (v:Value) (K:List Value->Option R):Option R :=
 match agg with
 | true=>(afR n v).bind fun cs=>K (aaz 0 n cs)
 | false=>(aos v).bind fun v=>K [v]
def O0 {R:Type} (v:Value) (a b:Option R):Option R:=match v with | .bool true=>a | .bool false=>b | _=>none
def ak8 (c a b:Value):Option Value:=match c with | .bool true=>some a | .bool false=>some b | _=>none
def aoL (op:BinOp) (k:IntKind) (x y:Int):Option Value :=
 match op with
 | .and=>some (.int k (k.wrap (BitVec.ofInt k.bits x &&& BitVec.ofInt k.bits y).toNat))
 | .or=>some (.int k (k.wrap (BitVec.ofInt k.bits x ||| BitVec.ofInt k.bits y).toNat))
 | .xor=>some (.int k (k.wrap (BitVec.ofInt k.bits x ^^^ BitVec.ofInt k.bits y).toNat))
 | .andNot=>some (.int k (k.wrap (BitVec.ofInt k.bits x &&& ~~~ BitVec.ofInt k.bits y).toNat))
 | _=>none
def O4 (op:BinOp) (k:IntKind) (a b:Int):Option Value :=
 match op with
 | .add=>some (.int k (k.wrap (a+b)))
 | .sub=>some (.int k (k.wrap (a-b)))
 | .mul=>some (.int k (k.wrap (a*b)))
 | .quo=>if b=0 then none else some (.int k (k.wrap (a.tdiv b)))
 | .rem=>if b=0 then none else some (.int k (a.tmod b))
 | .eql=>some (.bool (a==b))
 | .neq=>some (.bool (a != b))
 | .lss=>some (.bool (a<b))
 | .leq=>some (.bool (a<=b))
 | .gtr=>some (.bool (a>b))
 | .geq=>some (.bool (a>=b))
 | op=>aoL op k a b
def aer (op:BinOp) (a b:ByteArray):Option Value :=
 match op with
 | .add=>if a.size+b.size<=9223372036854775807 then some (.string (a++b)) else none
 | .eql=>some (.bool (a.toList==b.toList))
 | .neq=>some (.bool !(a.toList==b.toList))
 | .lss=>some (.bool (Op.bytesLess a.toList b.toList))
 | .leq=>some (.bool (Op.bytesLess a.toList b.toList||a.toList==b.toList))
 | .gtr=>some (.bool !(Op.bytesLess a.toList b.toList||a.toList==b.toList))
 | .geq=>some (.bool !(Op.bytesLess a.toList b.toList))
 | _=>none
def vEq (tk:TK) (x y:Value):Option Bool :=
 match tk,x,y with
 | .bool,.bool a,.bool b=>some (a==b)
 | .slice ..,.slice a _ _,.slice none _ _=>some a.isNone
 | _,_,_=>none
def O2 (tk:TK) (op:BinOp) (x y:Value):Option Value :=
 match x,y with
 | .int k a,.int k' b =>
   match op with
   | .shl=>if 0<=b then some (.int k (k.wrap (a*2 ^ (min b.toNat k.bits)))) else none
   | .shr=>if 0<=b then some (.int k (a.fdiv (2 ^ (min b.toNat k.bits)))) else none
   | op=>if k=k' then O4 op k a b else none
 | .string a,.string b=>aer op a b
 | x,y=>match op with
   | .eql=>(vEq tk x y).map .bool
   | .neq=>(vEq tk x y).map fun b => .bool !b
   | _=>none
def O3:List Value->List Value->Option Bool
 | [],[]=>some true
 | .string a::l,.string b::m=>(O3 l m).map fun r=>(a==b)&&r
 | _,_=>none
def ao6 (n:Nat) (op:BinOp) (x y:Value):Option Value :=
 match x,y with
 | .agg xs,.agg ys=>if xs.size=n/\ys.size=n then (O3 xs.toList ys.toList).bind fun b=>match op with
   | .eql=>some (.bool b)
   | .neq=>some (.bool !b)
   | _=>none else none
 | _,_=>none
def ae9 (ti:TI) (op:BinOp) (x y:Value):Option Value:=match ti.eqs with | true=>ao6 ti.size op x y | false=>O2 ti.k op x y
def vUn (op:UnOp) (x:Value):Option Value :=
 match op,x with
 | .neg,.int k n=>some (.int k (k.wrap (0-n)))
 | .not,.bool b=>some (.bool !b)
 | _,_=>none
def ajh (k:IntKind) (x:Value):Option Value:=match x with | .int _ n=>some (.int k (k.wrap n)) | _=>none
def ah6 (x:Value):Option Value:=match x with | .string s=>some (.string s) | _=>none
def ad9 (x i:Value):Option Value :=
 match x,i with
 | .string s,.int _ n=>if 0<=n then (s[n.toNat]?).map fun b => .int .u8 b.toNat else none
 | _,_=>none
def bnd (o:Option Value) (d:Int):Option Int:=match o with | none=>some d | some (.int _ n)=>some n | _=>none
def ael (x:Value) (lo hi:Option Value):Option Value :=
 match x with
 | .string s=>(bnd lo 0).bind fun l=>(bnd hi s.size).bind fun h=>if 0<=l/\l<=h/\h<=s.size then some (.string (s.extract l.toNat h.toNat)) else none
 | _=>none
def aaw (full:Prop) [Decidable full] (n:Nat):Nat:=if full then n else n+1
def aef (a:Option Addr) (d:Nat):Option Addr:=a.map fun x=>⟨x.block,x.off+d,none⟩
def ami (x:Value) (off:Nat):Option Value :=
 match x with | .pointer (some ⟨b,o,none⟩)=>some (.pointer (some ⟨b,o+off,none⟩)) | _=>none
def ajI (b8:Nat) (x i:Value):Option Value :=
 match x,i with
 | .slice (some ⟨b,o,none⟩) n _,.int _ j=>if 0<=j/\j<n then some (.pointer (some ⟨b,o+j.toNat*b8,none⟩)) else none
 | _,_=>none
def ajq (n b8:Nat) (x i:Value):Option Value :=
 match x,i with
 | .pointer (some ⟨b,o,none⟩),.int _ j=>if 0<=j/\j<n then some (.pointer (some ⟨b,o+j.toNat*b8,none⟩)) else none
 | _,_=>none
def aeg (n b8:Nat) (x i:Value):Option Value :=
 match x,i with
 | .agg cs,.int _ j=>if b8=1/\0<=j/\j<n then cs[j.toNat]? else none
 | _,_=>none
def aoK (n b8 i:Nat):Option (Nat × Nat × Bool):=if b8=1/\i<n then some (i,1,false) else none
def amw (x:Value) (i:Nat):Option Value:=match x with | .tuple vs=>vs[i]? | _=>none
def ak4 (x:Value):Option Value:=match x with | .string s=>some (.int .i64 s.size) | _=>none
def alk (x:Value):Option Value:=match x with | .slice _ n _=>some (.int .i64 n) | _=>none
def vSl (x:Value):Option Value:=match x with | .slice a n c=>some (.slice a n c) | _=>none
def akm (x:Value):Option Value :=
 match x with | .pointer (some a)=>some (.pointer (some a)) | .func (.func f) a b=>some (.func (.func f) a b) | _=>none
def alJ (x y:Value):Option Value :=
 match x,y with | .int k a,.int k' b=>if k=k' then some (.int k (if b<a then b else a)) else none | _,_=>none
def E4:Value->Bool
 | .bool _ | .int _ _ | .string _ | .pointer none | .slice none 0 0 | .nilFunc=>true
 | _=>false
def abC:Value->Bool
 | .agg cs=>cs.all E4
 | v=>E4 v
def abj:Value->Bool
 | .bool _ | .int _ _ | .string _=>true
 | _=>false
def ad3:Value->Bool
 | .tuple vs=>vs.all abj
 | v=>abj v
def j7 (hp:Heap) (b:Nat):Option j4:=(hp[b]?).bind fun k=>if k.md = .gone then none else some k
def szA (hp:Heap) (b8 n:Nat) (a:Option Addr):Bool :=
 match n,a with
 | 0,_=>true
 | _,some a=>(match hp[a.block]? with | some k=>Nat.beq k.sz b8 | none=>false)
 | _,none=>false
def aaJ (hp:Heap) (b8:Nat) (x:Value) (lo hi mx:Option Value):Option Value :=
 match x with
 | .slice a n c=>(bnd lo 0).bind fun l=>(bnd hi n).bind fun h =>
   match mx with
   | none=>if szA hp b8 n a=true/\0<=l/\l<=h/\h<=n then some (.slice (aef a (l.toNat*b8)) (h-l).toNat (aaw (h=n/\c=n) (h-l).toNat)) else none
   | some m=>(bnd (some m) 0).bind fun m=>if szA hp b8 n a=true/\hi.isSome/\0<=l/\l<=h/\h<=m/\m<=n then some (.slice (aef a (l.toNat*b8)) (h-l).toNat (aaw (h=m) (h-l).toNat)) else none
 | _=>none
def aee (hp:Heap) (n b8:Nat) (x:Value):Option Value :=
 match x with
 | .pointer (some ⟨b,o,none⟩)=>(j7 hp b).bind fun k=>if 0<n/\b8=1/\k.sz=1/\o+n<=k.cells.length then some (.slice (some ⟨b,o,none⟩) n n) else none
 | _=>none
def cut (l:List Value) (o n:Nat):Option (List Value):=if o+n<=l.length then some ((l.drop o).take n) else none
def D1 (l:List Value) (o:Nat) (cs:List Value):List Value:=l.take o++cs++l.drop (o+cs.length)
def Y7 (hp:Heap) (agg:Bool) (n:Nat) (p:Value):Option Value :=
 match p with
 | .pointer (some ⟨b,o,none⟩)=>(j7 hp b).bind fun k =>
   match agg with
   | true=>(cut k.cells o n).map fun cs => .agg cs.toArray
   | false=>k.cells[o]?
 | _=>none
def A3 (hp:Heap) (f:Nat):Heap:=hp.map fun k=>if k.j1=f then { k with md := .gone } else k
def Z2 (hp:Heap) (b:Nat) (k:j4) (e:Nat):Heap:=if e=k.cells.length then hp.set b { k with md := .ro } else A3 hp k.j1
def aet (hp:Heap) (p:Value) (cs:List Value):Option Heap :=
 match p with
 | .pointer (some ⟨b,o,none⟩)=>(j7 hp b).bind fun k =>
   if k.md = .rw/\o+cs.length<=k.cells.length then some ((A3 hp k.j1).set b { k with cells:=D1 k.cells o cs }) else none
 | _=>none
def X0 (s:ByteArray):List Value:=s.data.toList.map fun b => .int .u8 b.toNat
def B6 (hp:Heap) (sz:Nat) (x:Value):Option (List Value) :=
 match x with
 | .slice none _ _=>some []
 | .slice (some ⟨b,o,none⟩) n _=>if n=0 then some [] else (j7 hp b).bind fun k=>if k.sz=sz then cut k.cells o (n*sz) else none
 | .slice (some _) 0 _=>some []
 | .string s=>if sz=1 then some (X0 s) else none
 | _=>none
def A4:Value->Nat
 | .slice _ n _=>n
 | .string s=>s.size
 | _=>0
def K3 (hp:Heap) (n c:Nat):Value := .slice (some ⟨hp.length,0,none⟩) n c
def H7 (hp:Heap) (sz bytes:Nat) (s x:Value):Option (Value × Heap) :=
 match s with
 | .slice a n c =>
   (B6 hp sz x).bind fun new =>
   if A4 x=0 then some (.slice a n c,hp)
   else if c=n/\(n+A4 x)*bytes<=140737488355328 then
    (B6 hp sz s).bind fun p7=>some (K3 hp (n+A4 x) (n+A4 x+1),hp++[⟨p7++new,sz,.rw,hp.length,true⟩])
   else none
 | _=>none
def acg (hp:Heap) (sz bytes:Nat) (s x:Value):Option (Value × Heap) :=
 match s with
 | .slice a n c =>
   if c=n then H7 hp sz bytes s x
   else
   (B6 hp sz x).bind fun new =>
   if A4 x=0 then some (.slice a n c,hp)
   else if 0<n/\(n+A4 x)*bytes<=140737488355328 then
    (B6 hp sz s).bind fun p7 =>
    match a with
    | some ⟨b,o,none⟩=>(j7 hp b).bind fun k =>
      if k.md = .rw then some (K3 hp (n+A4 x) (n+A4 x+1),Z2 hp b k (o+n*sz)++[⟨p7++new,sz,.rw,k.j1,k.pl⟩]) else none
    | _=>none
   else none
 | _=>none
def Y6:List Value->Option (List UInt8)
 | []=>some []
 | .int .u8 n::l=>(Y6 l).map fun r=>UInt8.ofNat n.toNat::r
 | _::_=>none
def aki (hp:Heap) (x:Value):Option Value :=
 match x with
 | .slice a n c=>(B6 hp 1 (.slice a n c)).bind fun cs=>(Y6 cs).map fun bs => .string ⟨bs.toArray⟩
 | _=>none
def rep (n:Nat) (l:List Value):List Value:=match n with | 0=>[] | n+1=>l++rep n l
def ak7 (bytes:Nat) (l c:Value):Option (Nat × Nat) :=
 match l,c with
 | .int .i64 l,.int .i64 c=>if 0<=l/\l<=c/\c.toNat*bytes<=140737488355328/\c<=9223372036854775807 then some (l.toNat,c.toNat) else none
 | _,_=>none
structure Ctx where
 ng:Nat
 tab:List (Nat × TI)
 fn:FuncId->Option Func
 I8:FuncId->M5
 kind:FuncId->Nat
 ext:Nat->List Value->Option Value
 call:FuncId->List Value->Heap->Option (Value × Heap)
 lp:(List Value->Heap->Option (Option Nat × List Value × Heap))->List Value->Heap->Option (Nat × List Value × Heap)
noncomputable def R8 (call:FuncId->List Value->Heap->Option (Value × Heap)) (f:FuncId) (args:List Value) (hp:Heap):Option Value :=
 (call f args hp).bind fun r => @ite _ (r.2.take hp.length=hp/\ad3 r.1=true) (Classical.propDecidable _) (some r.1) none
noncomputable def R2 (call:FuncId->List Value->Heap->Option (Value × Heap)) (f:FuncId) (args:List Value) (hp:Heap):Option (Value × Heap) :=
 (call f args hp).bind fun r => @ite _ (r.2.take hp.length=hp) (Classical.propDecidable _) (some r) none
def callee (f:Value):Option (FuncId × List Value) :=
 match f with | .func (.func f) first caps=>if first.size=0 then some (f,caps.toList) else none | _=>none
section
variable {R:Type} (X:Ctx) (A:M5)
def S2 (st:St) (x:Operand) (K:EV->Option R):Option R :=
 match x with
 | .tmp t=>(match look st.env t with | some e=>K e | none=>none)
 | .const v=>(match abC v with | true=>K (.val v) | false=>none)
 | .global g=>(match Nat.blt g X.ng with | true=>K (.val (.pointer (some ⟨g,0,none⟩))) | false=>none)
 | .func f=>K (.val (.func (.func f) #[] #[]))
def D3 (st:St) (x:Operand) (K:Value->Option R):Option R :=
 S2 X st x fun e=>match e with | .val v=>K v | _=>none
def aaR (st:St):List Operand->(List Value->Option R)->Option R
 | [],K=>K []
 | x::xs,K=>D3 X st x fun v=>aaR st xs fun vs=>K (v::vs)
def voK (st:St) (x:Option Operand) (K:Option Value->Option R):Option R :=
 match x with | none=>K none | some x=>D3 X st x fun v=>K (some v)
def U5 (st:St) (place:Nat->Option (Nat × Nat × Bool)):List (Nat × Operand)->List Value->(List Value->Option R)->Option R
 | [],cells,K=>K cells
 | (i,x)::rest,cells,K =>
   match place i with
   | none=>none
   | some (off,n,agg)=>match Nat.ble (off+n) cells.length with
     | true=>D3 X st x fun v=>N0 agg n v fun cs=>U5 st place rest (D1 cells off cs) K
     | false=>none
noncomputable def A2 (o:Oper) (st:St) (K:EV->List (Nat × List Value)->Heap->A8->Option R):Option R :=
 let pv:Value->Option R:=fun v=>K (.val v) st.loc st.hp .P
 match o.op with
 | .move x | .assign x=>S2 X st x fun e=>K e st.loc st.hp .P
 | .pick c a b=>D3 X st c fun vc=>S2 X st a fun ea=>S2 X st b fun eb =>
   match ea,eb with
   | .val va,.val vb=>(ak8 vc va vb).bind pv
   | .B4,.val vb=>O0 vc none (pv vb)
   | .val va,.B4=>O0 vc (pv va) none
   | _,_=>none
 | .alloc elem=>match look X.tab elem,o.dst with
   | some ti,some d=>(match mem A.loc d with
     | true=>(match look st.loc d with | none=>K (.loc d 0) ((d,ti.zero)::st.loc) st.hp (.N d) | some _=>none)
     | false=>K (.val (.pointer (some ⟨st.hp.length,0,none⟩))) st.loc (st.hp++[⟨ti.zero,ti.size,.rw,st.hp.length,true⟩]) .A)
   | _,_=>none
 | .box elem x=>match look X.tab elem,o.dst with
   | some ti,some d=>D3 X st x fun v=>N0 ti.agg ti.size v fun cs=>(match mem A.loc d with
     | true=>(match look st.loc d with | none=>K (.loc d 0) ((d,cs)::st.loc) st.hp (.N d) | some _=>none)
     | false=>K (.val (.pointer (some ⟨st.hp.length,0,none⟩))) st.loc (st.hp++[⟨cs,ti.size,.rw,st.hp.length,true⟩]) .A)
   | _,_=>none
 | .build t parts=>match look X.tab t with
   | some { k := .struct fs,zero:=z,.. }=>U5 X st (fun i=>fs[i]?) parts.toList z fun cs=>pv (.agg cs.toArray)
   | some { k := .arr n b8,zero:=z,.. }=>U5 X st (aoK n b8) parts.toList z fun cs=>pv (.agg cs.toArray)
   | _=>none
 | .buildSlice t len parts=>match look X.tab t with
   | some { k := .slice e b8 _ z,.. }=>match look X.tab e with
     | some te=>match Nat.ble (len*b8) 16777216 with
       | true=>U5 X st (fun i=>some (i*b8,b8,te.agg)) parts.toList (rep len z) fun cs =>
         K (.val (K3 st.hp len len)) st.loc (st.hp++[⟨cs,b8,.rw,st.hp.length,true⟩]) .A
       | false=>none
     | none=>none
   | _=>none
 | .load t x=>match look X.tab t with
   | some ti=>S2 X st x fun e=>match e with
     | .loc k off=>(match look st.loc k with
       | some cs=>(match ti.agg with
         | true=>(cut cs off ti.size).bind fun cs'=>K (.val (.agg cs'.toArray)) st.loc st.hp (.L k)
         | false=>(cs[off]?).bind fun v=>K (.val v) st.loc st.hp (.L k))
       | none=>none)
     | .val p=>(Y7 st.hp ti.agg ti.size p).bind fun v=>K (.val v) st.loc st.hp .H
     | .B4=>none
   | none=>none
 | .store t x y=>match look X.tab t with
   | some ti=>S2 X st x fun e=>D3 X st y fun v=>N0 ti.agg ti.size v fun cs=>match e with
     | .loc k off=>(match look st.loc k with
       | some p7=>(match Nat.ble (off+cs.length) p7.length with
         | true=>K .B4 (U1 st.loc k (D1 p7 off cs)) st.hp (.S k)
         | false=>none)
       | none=>none)
     | .val p=>(aet st.hp p cs).bind fun hp'=>K .B4 st.loc hp' .W
     | .B4=>none
   | none=>none
 | .nilCheck x=>S2 X st x fun e=>match e with
   | .loc k off=>K (.loc k off) st.loc st.hp .P
   | .val v=>(akm v).bind pv
   | .B4=>none
 | .binOp op t x y _=>match look X.tab t with
   | some ti=>D3 X st x fun a=>D3 X st y fun b=>(ae9 ti op a b).bind pv
   | none=>none
 | .unOp op _ x=>D3 X st x fun a=>(vUn op a).bind pv
 | .convert src dst x=>match look X.tab src,look X.tab dst with
   | some ts,some td=>D3 X st x fun v=>match td.k,ts.k with
     | .int k,.int _=>(ajh k v).bind pv
     | .str,.str=>(ah6 v).bind pv
     | .slice _ _ _ _,.str=>match td.k,v with
       | .slice e _ _ _,.string s=>(match look X.tab e with
         | some { k := .int .u8,.. }=>K (.val (K3 st.hp s.size (s.size+1))) st.loc (st.hp++[⟨X0 s,1,.rw,st.hp.length,false⟩]) .A
         | _=>none)
       | _,_=>none
     | .str,.slice e _ _ _=>(match look X.tab e with
      | some { k := .int .u8,.. }=>(aki st.hp v).bind fun s=>K (.val s) st.loc st.hp .H
      | _=>none)
     | _,_=>none
   | _,_=>none
 | .makeFunc fn first captured=>match first.size with
   | 0=>aaR X st captured.toList fun vs=>pv (.func fn #[] vs.toArray)
   | _=>none
 | .makeSlice t l c=>match look X.tab t with
   | some { k := .slice _ b8 ebytes z,.. }=>D3 X st l fun vl=>D3 X st c fun vc=>(ak7 ebytes vl vc).bind fun n =>
     K (.val (K3 st.hp n.1 (aaw (n.1=n.2) n.1))) st.loc (st.hp++[⟨rep n.2 z,b8,.rw,st.hp.length,true⟩]) .A
   | _=>none
 | .slice t x lo hi mx=>match look X.tab t with
   | some { k := .str,.. }=>D3 X st x fun v=>voK X st lo fun l=>voK X st hi fun h=>match mx with | none=>(ael v l h).bind pv | some _=>none
   | some { k := .slice _ b8 _ _,.. }=>D3 X st x fun v=>voK X st lo fun l=>voK X st hi fun h=>voK X st mx fun m=>(aaJ st.hp b8 v l h m).bind pv
   | some { k := .arr n b8,.. }=>match lo,hi,mx with
     | none,none,none=>D3 X st x fun v=>(aee st.hp n b8 v).bind fun v=>K (.val v) st.loc st.hp .H
     | _,_,_=>none
   | _=>none
 | .fieldAddr t x f=>match look X.tab t with
   | some { k := .struct fs,.. }=>(match fs[f]? with
     | some (off,_,_)=>S2 X st x fun e=>match e with
       | .loc k o=>K (.loc k (o+off)) st.loc st.hp .P
       | .val p=>(ami p off).bind pv
       | .B4=>none
     | none=>none)
   | _=>none
 | .field t x f=>match look X.tab t with
   | some { k := .struct fs,size:=n,.. }=>(match fs[f]? with
     | some (off,m,agg)=>D3 X st x fun v=>(afR n v).bind fun cs=>match agg with
       | true=>(cut cs off m).bind fun c=>pv (.agg c.toArray)
       | false=>(cs[off]?).bind pv
     | none=>none)
   | _=>none
 | .indexAddr t x i=>match look X.tab t with
   | some { k := .slice _ b8 _ _,.. }=>D3 X st x fun v=>D3 X st i fun j=>(ajI b8 v j).bind pv
   | some { k := .arr n b8,.. }=>D3 X st x fun v=>D3 X st i fun j=>(ajq n b8 v j).bind pv
   | _=>none
 | .index t x i=>match look X.tab t with
   | some { k := .str,.. }=>D3 X st x fun v=>D3 X st i fun j=>(ad9 v j).bind pv
   | some { k := .arr n b8,.. }=>D3 X st x fun v=>D3 X st i fun j=>(aeg n b8 v j).bind pv
   | _=>none
 | .extract x i=>D3 X st x fun v=>(amw v i).bind pv
 | .call c=>match c.callee with
   | .builtin .len=>match c.args.toList,c.argTypes.toList with
     | [x],[t]=>(match look X.tab t with
       | some { k := .str,.. }=>D3 X st x fun v=>(ak4 v).bind pv
       | some { k := .slice ..,.. }=>D3 X st x fun v=>(alk v).bind pv
       | _=>none)
     | _,_=>none
   | .builtin .min=>match c.args.toList with
     | [x,y]=>D3 X st x fun a=>D3 X st y fun b=>(alJ a b).bind pv
     | _=>none
   | .builtin .append=>match c.args.toList,c.argTypes.toList,o.dst with
     | [x,y],[t,u],some d=>match look X.tab t,look X.tab u with
       | some { k := .slice _ b8 ebytes _,.. },some { k := .slice ..,.. }=>D3 X st x fun s=>D3 X st y fun v=>(vSl v).bind fun v=>match mem A.full d with
         | true=>(H7 st.hp b8 ebytes s v).bind fun r=>K (.val r.1) st.loc r.2 .A
         | false=>(acg st.hp b8 ebytes s v).bind fun r=>K (.val r.1) st.loc r.2 .W
       | some { k := .slice _ b8 ebytes _,.. },some { k := .str,.. }=>D3 X st x fun s=>D3 X st y fun v=>(ah6 v).bind fun v=>match mem A.full d with
         | true=>(H7 st.hp b8 ebytes s v).bind fun r=>K (.val r.1) st.loc r.2 .A
         | false=>(acg st.hp b8 ebytes s v).bind fun r=>K (.val r.1) st.loc r.2 .W
       | _,_=>none
     | _,_,_=>none
   | .value (.func f)=>aaR X st c.args.toList fun vs=>match X.kind f with
     | 0=>(X.call f vs st.hp).bind fun r=>K (.val r.1) st.loc r.2 .W
     | 1=>(R8 X.call f vs st.hp).bind fun v=>K (.val v) st.loc st.hp .H
     | 2=>(R2 X.call f vs st.hp).bind fun r=>K (.val r.1) st.loc r.2 .A
     | n+3=>(X.ext n vs).bind pv
   | .value x=>D3 X st x fun fv=>aaR X st c.args.toList fun vs=>(callee fv).bind fun p=>match A.y2 with
     | true=>(R8 X.call p.1 (vs++p.2) st.hp).bind fun v=>K (.val v) st.loc st.hp .H
     | false=>(X.call p.1 (vs++p.2) st.hp).bind fun r=>K (.val r.1) st.loc r.2 .W
   | _=>none
 | _=>none
def acC (ops:Array Oper) (j:Nat):Option Nat:=(ops[j]?).bind (·.dst)
def K9 (ops:Array Oper) (o:Oper) (env:List (Nat × EV)) (run pass:List (Nat × EV)->Option R):Option R :=
 match o.guard with
 | none=>run env
 | some (j,want)=>match acC ops j with
   | none=>none
   | some d=>match look env d with
     | some (.val v)=>(match want with
       | true=>O0 v (run ((d,.val (.bool true))::env)) (pass ((d,.val (.bool false))::env))
       | false=>O0 v (pass ((d,.val (.bool true))::env)) (run ((d,.val (.bool false))::env)))
     | some .B4=>pass env
     | _=>none
noncomputable def X4 (ops:Array Oper):List Oper->List A8->St->(List A8->St->Option R)->Option R
 | [],cl,st,K=>K cl st
 | o::os,cl,st,K=>K9 ops o st.env
   (fun env=>A2 X A o { st with env:=env } fun e loc hp c=>X4 ops os (c::cl) ⟨acb env o.dst e,loc,hp⟩ K)
   (fun env=>X4 ops os (.P::cl) ⟨acb env o.dst .B4,st.loc,st.hp⟩ K)
def aa7 (env:List (Nat × EV)):List Nat->(List Value->Option R)->Option R
 | [],K=>K []
 | s::ss,K=>match look env s with | some (.val v)=>aa7 env ss fun vs=>K (v::vs) | _=>none
def ajO (env:List (Nat × EV)):List (Nat × Nat × Nat)->Bool
 | []=>true
 | (s,k,o)::l=>match look env s with
   | some (.loc k' o')=>Nat.beq k k'&&Nat.beq o o'&&ajO env l
   | _=>false
def csK (loc:List (Nat × List Value)):List (Nat × Nat)->(List Value->Option R)->Option R
 | [],K=>K []
 | (k,n)::l,K=>match look loc k with | some cs=>(match Nat.beq cs.length n with | true=>csK loc l fun vs=>K (cs++vs) | false=>none) | none=>none
def L4 (kp:E9) (st:St) (K:List Value->Heap->Option R):Option R :=
 match ajO st.env kp.ls with
 | true=>aa7 st.env kp.vs fun vs=>csK st.loc kp.cs fun cs=>K (vs++cs) st.hp
 | false=>none
def total:List (Nat × Nat)->Nat
 | []=>0
 | (_,n)::l=>n+total l
def V8:Nat->List Nat->List Value->List (Nat × EV)
 | _,[],_=>[]
 | i,s::ss,vs=>(s,.val (vs.getD i undef))::V8 (i+1) ss vs
def J2:Nat->List (Nat × Nat)->List Value->List (Nat × List Value)
 | _,[],_=>[]
 | i,(k,n)::l,vs=>(k,aaz i n vs)::J2 (i+n) l vs
def U0:List (Nat × Nat × Nat)->List (Nat × EV)
 | []=>[]
 | (s,k,o)::l=>(s,.loc k o)::U0 l
def afA:List (Nat × Nat × Nat)->List (Nat × Nat)->Bool
 | [],_=>true
 | (_,k,_)::l,cs=>(match look cs k with | some _=>true | none=>false)&&afA l cs
def abS (kp:E9):Bool:=afA kp.ls kp.cs&&(kp.cs.map (·.1)).Nodup
def Y2 (kp:E9) (vs:List Value) (hp:Heap) (K:St->Option R):Option R :=
 match abS kp with
 | true=>if vs.length=kp.vs.length+total kp.cs then K ⟨U0 kp.ls++V8 0 kp.vs vs,J2 kp.vs.length kp.cs vs,hp⟩ else none
 | false=>none
def alb:Exit->Exit->Bool
 | .normal,.normal=>true
 | .ret,.ret=>true
 | .exit a,.exit b=>Nat.beq a b
 | _,_=>false
def V1 (outs:List (Exit × E9)) (e:Exit) (st:St) (K:Nat->List Value->Heap->Option R):Option R :=
 match outs with
 | []=>none
 | (x,kp)::l=>match alb x e with
   | true=>L4 kp st fun vs hp=>K 0 vs hp
   | false=>V1 l e st fun n vs hp=>K (n+1) vs hp
def inK (outs:List (Exit × E9)) (n:Nat) (vs:List Value) (hp:Heap) (K:Exit->St->Option R):Option R :=
 match outs with
 | []=>none
 | (x,kp)::l=>match n with
   | 0=>Y2 kp vs hp fun st=>K x st
   | n+1=>inK l n vs hp K
def X3:Code->Nat
 | .region id _ _=>id
 | .seq a _=>X3 a
 | .cond _ a _=>X3 a
 | .block _ a=>X3 a
 | .loop a=>X3 a
 | .ret=>1000000
 | _=>1000001
def alM:List (Nat × Nat × List (Exit × E9))->Nat->Nat->Option (List (Exit × E9))
 | [],_,_=>none
 | (a,b,o)::l,x,y=>match Nat.beq a x&&Nat.beq b y with | true=>some o | false=>alM l x y
def asx:Code->Bool
 | .region .. => true
 | _=>false
end
def af0 (acc:List Nat):List Edge->Nat
 | []=>0
 | e::es=>match Region.binds .any e with
   | true=>af0 acc es ||| 2 ^ e.on ||| acc.getD e.on 0
   | false=>af0 acc es
def abn:List Oper->List Nat->List Nat
 | [],acc=>acc
 | o::os,acc=>abn os (acc++[af0 acc o.after.toList])
def abR (ops:Array Oper) (i j:Nat):Bool :=
 match ops[i]?,ops[j]? with
 | some a,some b=>a.apart ops b
 | _,_=>false
def F6:A8->A8->Bool
 | .P,_ | _,.P=>true
 | .L k,.S k' | .S k,.L k' | .S k,.S k' | .N k,.N k' | .N k,.S k' | .S k,.N k' | .N k,.L k' | .L k,.N k' => !Nat.beq k k'
 | .L _,_ | _,.L _ | .S _,_ | _,.S _ | .N _,_ | _,.N _=>true
 | .W,_ | _,.W=>false
 | _,_=>true
def aaL (ops:Array Oper):Bool:=ops.toList.zipIdx.all fun (o,i)=>o.after.all fun e => !Region.binds .any e||decide (e.on<i)
def acK (ops:Array Oper) (cl:List A8):Bool :=
 aaL ops&&Nat.beq cl.length ops.size &&
 (List.range ops.size).all fun j=>(List.range j).all fun i =>
  ((abn ops.toList []).getD j 0).testBit i||(abR ops i j&&F6 (cl.getD i .W) (cl.getD j .W))
section
variable (X:Ctx) (A:M5)
noncomputable def w7:Code->{R:Type}->St->(Exit->St->Option R)->Option R
 | .skip,_,st,K=>K .normal st
 | .region _ ops draw,_,st,K=>match draw with
   | false=>X4 X A ops ops.toList [] st fun _ st=>K .normal st
   | true=>X4 X A ops ops.toList [] st fun cl st=>match acK ops cl.reverse with | true=>K .normal st | false=>none
 | .seq a b,_,st,K=>match (match asx a with | true=>none | false=>alM A.p8 (X3 a) (X3 b)) with
   | none=>w7 a st fun e st=>match e with | .normal=>w7 b st K | e=>K e st
   | some outs=>(w7 a st fun e st=>V1 outs e st fun n vs hp=>some (n,vs,hp)).bind fun r =>
     inK outs r.1 r.2.1 r.2.2 fun e st=>match e with | .normal=>w7 b st K | e=>K e st
 | .cond c a b,_,st,K=>D3 X st c fun v=>O0 v (w7 a st K) (w7 b st K)
 | .block id a,_,st,K=>w7 a st fun e st=>match e with
   | .exit i=>(match Nat.beq i id with | true=>K .normal st | false=>K (.exit i) st)
   | e=>K e st
 | .loop a,_,st,K=>match look A.loops (X3 a) with
   | none=>none
   | some li=>L4 li.ks st fun vs hp =>
     (X.lp (fun vs hp=>Y2 li.ks vs hp fun st=>w7 a st fun e st=>match e with
      | .normal=>L4 li.ks st fun vs hp=>some (none,vs,hp)
      | e=>V1 li.outs e st fun n vs hp=>some (some n,vs,hp)) vs hp).bind fun r =>
     inK li.outs r.1 r.2.1 r.2.2 K
 | .exit id,_,st,K=>K (.exit id) st
 | .ret,_,st,K=>K .ret st
 | _,_,_,_=>none
variable {R:Type}
def H6 (rs:List ResultVar) (st:St) (K:List Value->Option R):Option R :=
 match rs with
 | []=>K []
 | .tmp t::l=>(match look st.env t with | some (.val v)=>H6 l st fun vs=>K (v::vs) | _=>none)
 | .cell a t::l=>match look X.tab t with
   | some ti=>(match look st.env a with
     | some (.loc k 0)=>(match look st.loc k with
       | some cs=>(match Nat.beq cs.length ti.size with
         | true=>(match ti.agg with
           | true=>H6 l st fun vs=>K (.agg cs.toArray::vs)
           | false=>(match cs with | [v]=>H6 l st fun vs=>K (v::vs) | _=>none))
         | false=>none)
       | none=>none)
     | some (.val p)=>(Y7 st.hp ti.agg ti.size p).bind fun v=>H6 l st fun vs=>K (v::vs)
     | _=>none)
   | none=>none
def Y5:Nat->List Value->List (Nat × EV)
 | _,[]=>[]
 | i,v::vs=>(i,.val v)::Y5 (i+1) vs
def one:List Value->Value
 | [v]=>v
 | vs => .tuple vs.toArray
def aon (n:Nat):List Oper->Bool
 | []=>true
 | o::os=>(match o.dst with | none=>true | some d=>Nat.blt d n)&&aon n os
def ac0 (n:Nat):Code->Bool
 | .region _ ops _=>aon n ops.toList
 | .seq a b=>ac0 n a&&ac0 n b
 | .cond _ a b=>ac0 n a&&ac0 n b
 | .block _ a=>ac0 n a
 | .loop a=>ac0 n a
 | _=>true
noncomputable def aau (f:FuncId) (args:List Value) (hp:Heap):Option (Value × Heap) :=
 match X.fn f with
 | none=>none
 | some fn=>match fn.body with
   | none=>none
   | some c=>match ac0 fn.ntmps c with
     | true=>w7 X (X.I8 f) c ⟨Y5 0 args,[],hp⟩ fun e st=>(match e with
       | .normal | .ret=>H6 X fn.results.toList st fun vs=>some (one vs,st.hp)
       | _=>none)
     | false=>none
end
end Go.AM

/- The abstract machine's values, heap and locals, and what stands for them in the world. -/
namespace Go.AM
set_option linter.unusedSimpArgs false
set_option linter.unusedVariables false
structure Img where
 w5:Nat
 off:Nat
 room:Nat
 sz:Nat
abbrev j8:=Nat->Option Img
inductive VR (ι:j8):Value->Value->Prop
 | bool (b:Bool):VR ι (.bool b) (.bool b)
 | int (k:IntKind) (n:Int):VR ι (.int k n) (.int k n)
 | str (s:ByteArray):VR ι (.string s) (.string s)
 | b7:VR ι (.pointer none) (.pointer none)
 | ptr {b o:Nat} {x:Img}:ι b=some x->VR ι (.pointer (some ⟨b,o,none⟩)) (.pointer (some ⟨x.w5,x.off+o,none⟩))
 | abA:VR ι (.slice none 0 0) (.slice none 0 0)
 | slc {b o n c c':Nat} {x:Img}:ι b=some x->0<n->n<=c'->(c=n->c'=n)->o+c'*x.sz<=x.room →
  VR ι (.slice (some ⟨b,o,none⟩) n c) (.slice (some ⟨x.w5,x.off+o,none⟩) n c')
 | slz (a a':Addr) (c c':Nat):(c=0->c'=0)->VR ι (.slice (some a) 0 c) (.slice (some a') 0 c')
 | agg {cs cs':Array Value}:cs.size=cs'.size->(∀ (i:Nat) (v v':Value),cs[i]? = some v->cs'[i]? = some v'->VR ι v v') →
  (∀ (i:Nat) (v:Value),cs[i]? = some v->v.oneCell'=true)->VR ι (.agg cs) (.agg cs')
 | tuple {cs cs':Array Value}:cs.size=cs'.size->(∀ (i:Nat) (v v':Value),cs[i]? = some v->cs'[i]? = some v'->VR ι v v') →
  VR ι (.tuple cs) (.tuple cs')
 | fn {f:Fn} {cs cs':Array Value}:cs.size=cs'.size->(∀ (i:Nat) (v v':Value),cs[i]? = some v->cs'[i]? = some v'->VR ι v v') →
  VR ι (.func f #[] cs) (.func f #[] cs')
 | Q4:VR ι .nilFunc .nilFunc
inductive ER (ι:j8) (ρ:Nat->Nat):EV->Value->Prop
 | val {v v':Value}:VR ι v v'->ER ι ρ (.val v) v'
 | loc (k o:Nat):ER ι ρ (.loc k o) (.pointer (some ⟨ρ k,o,none⟩))
 | B4:ER ι ρ .B4 undef
def Sub (ι ι':j8):Prop:=∀ b x,ι b=some x->ι' b=some x
theorem Sub.refl (ι:j8):Sub ι ι:=fun _ _ h=>h
theorem Sub.trans {a b c:j8} (h:Sub a b) (k:Sub b c):Sub a c:=fun _ _ e=>k _ _ (h _ _ e)
theorem VR.mono {ι ι':j8} (hs:Sub ι ι') {v v':Value} (h:VR ι v v'):VR ι' v v':=by
 induction h with
 | bool b=>exact .bool b
 | int k n=>exact .int k n
 | str s=>exact .str s
 | b7=>exact .b7
 | ptr h=>exact .ptr (hs _ _ h)
 | abA=>exact .abA
 | slc h a b c d=>exact .slc (hs _ _ h) a b c d
 | slz a a' c c' h=>exact .slz a a' c c' h
 | agg h _ h1 ih=>exact .agg h ih h1
 | tuple h _ ih=>exact .tuple h ih
 | fn h _ ih=>exact .fn h ih
 | Q4=>exact .Q4
theorem VR.back {ι ι':j8} (hs:Sub ι ι') {v x:Value} (h:VR ι v x):∀ {y:Value},VR ι' v y->VR ι v y:=by
 induction h with
 | bool b=>intro y h; cases h; exact .bool b
 | int k n=>intro y h; cases h; exact .int k n
 | str s=>intro y h; cases h; exact .str s
 | b7=>intro y h; cases h; exact .b7
 | ptr h=>intro y h'; cases h' with | ptr h'=>rw [hs _ _ h] at h'; cases h'; exact .ptr h
 | abA=>intro y h; cases h; exact .abA
 | slc h a b c d=>intro y h'; cases h' with
   | slc h' a' b' c' d'=>rw [hs _ _ h] at h'; cases h'; exact .slc h a' b' c' d'
   | slz=>omega
 | slz a a' c c' h=>intro y h'; cases h' with
   | slc h' a'=>omega
   | slz _ _ _ _ h'=>exact .slz _ _ _ _ h'
 | @agg cs cs' hz _ h1 ih=>intro y h'; cases h' with
   | @agg _ cs'' hz' hc h1' =>
     refine .agg hz' (fun i v v' e e'=>?_) h1
     have hi:i<cs'.size:=by rw [<-hz]; exact (Array.getElem?_eq_some_iff.1 e).1
     exact ih i v cs'[i] e (Array.getElem?_eq_getElem hi) (hc i v v' e e')
 | @tuple cs cs' hz _ ih=>intro y h'; cases h' with
   | @tuple _ cs'' hz' hc =>
     refine .tuple hz' (fun i v v' e e'=>?_)
     have hi:i<cs'.size:=by rw [<-hz]; exact (Array.getElem?_eq_some_iff.1 e).1
     exact ih i v cs'[i] e (Array.getElem?_eq_getElem hi) (hc i v v' e e')
 | @fn f cs cs' hz _ ih=>intro y h'; cases h' with
   | @fn _ _ cs'' hz' hc =>
     refine .fn hz' (fun i v v' e e'=>?_)
     have hi:i<cs'.size:=by rw [<-hz]; exact (Array.getElem?_eq_some_iff.1 e).1
     exact ih i v cs'[i] e (Array.getElem?_eq_getElem hi) (hc i v v' e e')
 | Q4=>intro y h; cases h; exact .Q4
theorem ER.mono {ι ι':j8} {ρ:Nat->Nat} (hs:Sub ι ι') {e:EV} {v:Value} (h:ER ι ρ e v):ER ι' ρ e v:=by
 cases h with
 | val h=>exact .val (h.mono hs)
 | loc k o=>exact .loc k o
 | B4=>exact .B4
theorem VR.one {ι:j8} {v v':Value} (h:VR ι v v') (h1:v.oneCell'=true):v'.oneCell'=true:=by
 cases h<;>first | rfl | exact h1
def F5 (ι:j8) (cells:List Value) (cs:Array Value) (off:Nat):Prop :=
 ∀ (i:Nat) (v:Value),cells[i]? = some v->v.oneCell'=true/\∃ v',cs[off+i]? = some v'/\VR ι v v'
theorem F5.mono {ι ι':j8} (hs:Sub ι ι') {cells:List Value} {cs:Array Value} {off:Nat} (h:F5 ι cells cs off):F5 ι' cells cs off :=
 fun i v e=>⟨(h i v e).1,let ⟨v',a,b⟩:=(h i v e).2; ⟨v',a,b.mono hs⟩⟩
def aim (pl:Bool) (n:Nat) (fr:Nat × Nat):Prop:=fr.2<=fr.1\/(n<=fr.1/\pl=false)
def S5 (ι:j8) (x:Img) (k:j4) (w:World) (B:Nat):Prop :=
 ∃ cs el fr,w.heap[x.w5]? = some (.cells cs el fr)/\cs.size=x.off+x.room/\k.cells.length<=x.room ∧
   F5 ι k.cells cs x.off/\(k.md = .rw->aim k.pl cs.size fr/\B<=x.w5)
def GOk (ng:Nat) (ι:j8):Prop:=∀ g,g<ng->∃ x,ι g=some x/\x.w5=g/\x.off=0
def ah8 (ι:j8) (hp:Heap):Prop:=∀ b x k,ι b=some x->hp[b]? = some k->k.sz=x.sz
structure Rel (ng:Nat) (ι:j8) (hp:Heap) (w:World) (B:Nat):Prop where
 D0:GOk ng ι
 M6:ah8 ι hp
 B2:∀ b x,ι b=some x->b<hp.length
 base:B<=w.heap.size
 ok:∀ b x k,ι b=some x->j7 hp b=some k->S5 ι x k w B
 sep:∀ b x k b' x' k',ι b=some x->j7 hp b=some k->k.md = .rw->ι b'=some x'->j7 hp b'=some k'->x.w5=x'.w5->b=b'\/(b'<b/\k'.md = .ro/\k'.j1=k.j1/\x'.off+k'.cells.length<=x.off+k.cells.length)
structure Fr (ι:j8) (hp:Heap) (w w':World):Prop where
 os:w'.os=w.os
 tape:w'.tape=w.tape
 output:w'.output=w.output
 size:w.heap.size<=w'.heap.size
 block:∀ j,j<w.heap.size->(∀ b x k,ι b=some x->j7 hp b=some k->k.md = .rw->x.w5 ≠ j)->w'.heap[j]? = w.heap[j]?
def Own (ι:j8) (hp:Heap) (w:World) (ι':j8) (hp':Heap):Prop :=
 ∀ b x k,ι' b=some x->j7 hp' b=some k->x.w5<w.heap.size->∃ b0 x0 k0,ι b0=some x0/\j7 hp b0=some k0/\(b0=b\/k0.md = .rw)/\(k.md = .rw->k0.md = .rw)/\x0.w5=x.w5
def W6 (ι:j8) (cells:List Value) (w:World) (j:Nat):Prop :=
 ∃ cs el fr,w.heap[j]? = some (.cells cs el fr)/\cs.size=cells.length/\aim false cs.size fr/\F5 ι cells cs 0
theorem j5 {hp:Heap} {b:Nat} {k:j4} (h:j7 hp b=some k):hp[b]? = some k/\k.md ≠ .gone/\b<hp.length:=by
 unfold j7 at h
 cases e:hp[b]? with
 | none=>rw [e] at h; cases h
 | some q =>
   rw [e] at h
   simp only [Option.bind_some] at h
   split at h
   ·cases h
   ·cases h
    exact ⟨rfl,by assumption,(List.getElem?_eq_some_iff.1 e).1⟩
theorem y3 {hp:Heap} {b:Nat} {k:j4} (h:hp[b]? = some k) (hg:k.md ≠ .gone):j7 hp b=some k:=by
 simp [j7,h,hg]
theorem w9 {hp:Heap} {b:Nat} (l:Heap) (h:b<hp.length):j7 (hp++l) b=j7 hp b:=by
 simp [j7,List.getElem?_append_left h]
theorem O8 {l:List (Nat × List Value)} {k j:Nat} {d:List Value}:look (U1 l k d) j=if j=k then (look l j).map fun _=>d else look l j:=by
 induction l with
 | nil=>simp [U1,look]
 | cons p l ih =>
   obtain ⟨a,c⟩:=p
   by_cases hk:a=k
   ·subst hk
    have hb:Nat.beq a a=true:=Nat.beq_refl a
    simp only [U1,hb,look]
    by_cases hj:a=j
    ·subst hj; simp [look,hb]
    ·have hj':Nat.beq a j=false:=by cases h:Nat.beq a j with | false=>rfl | true=>exact absurd (Nat.eq_of_beq_eq_true h) hj
     simp [look,hj',Ne.symm hj]
   ·have hb:Nat.beq a k=false:=by cases h:Nat.beq a k with | false=>rfl | true=>exact absurd (Nat.eq_of_beq_eq_true h) hk
    simp only [U1,hb,look]
    by_cases hj:a=j
    ·subst hj
     have:Nat.beq a a=true:=Nat.beq_refl a
     simp [this,hk]
    ·have hj':Nat.beq a j=false:=by cases h:Nat.beq a j with | false=>rfl | true=>exact absurd (Nat.eq_of_beq_eq_true h) hj
     simp only [hj']
     exact ih
theorem j3 {α:Type} {a:Nat} {c:α} {l:List (Nat × α)} {j:Nat}:look ((a,c)::l) j=if j=a then some c else look l j:=by
 by_cases hj:a=j
 ·subst hj; have:Nat.beq a a=true:=Nat.beq_refl a; simp [look,this]
 ·have hj':Nat.beq a j=false:=by cases h:Nat.beq a j with | false=>rfl | true=>exact absurd (Nat.eq_of_beq_eq_true h) hj
  simp [look,hj',Ne.symm hj]
def V9:TypeDesc->Bool
 | .struct _ | .array _ _=>true
 | _=>false
def aoW (P:Program) (d:TypeDesc):TK->Prop
 | .int k=>d = .int k
 | .bool=>d = .bool
 | .str=>d = .string
 | .slice e b8 eb z=>d = .slice e/\∃ i v,P.info? e=some i/\i.size=b8/\i.bytes=eb/\i.zero=some v/\v.cells.toList=z/\z.length=b8/\0<b8/\0<eb/\∀ u ∈ z,E4 u=true
 | .struct fs=>∃ fields,d = .struct fields/\fields.size=fs.length ∧
  ∀ (i off n:Nat) (agg:Bool),fs[i]? = some (off,n,agg)->∃ (f:Field) (g:TypeInfo) (u:TypeDesc),fields[i]? = some f/\f.offset=off/\P.info? f.type=some g/\g.size=n/\0<n ∧
    P.underlying f.type=some u/\V9 u=agg/\(agg=false->n=1)
 | .arr n b8=>∃ e i,d = .array n e/\P.info? e=some i/\i.size=b8/\∃ u,P.underlying e=some u/\(b8=1->V9 u=false)
 | .other=>True
def ao3 (P:Program) (t:TypeId) (n:Nat):Prop:=P.eqGuardType P.depth t=false/\P.stoodInHeld t=false ∧
 ∃ fs:Array Field,P.underlying t=some (.struct fs)/\fs.size=n/\∀ (i:Nat) (f:Field),fs.toList[i]? = some f->f.name ≠ "_"/\f.offset=i/\P.underlying f.type=some .string
structure K8 (P:Program) (t:TypeId) (ti:TI):Prop where
 info:∃ i v,P.info? t=some i/\i.size=ti.size/\i.zero=some v/\v.cells.toList=ti.zero/\ti.zero.length=ti.size/\∀ u ∈ ti.zero,E4 u=true
 und:∃ d,P.underlying t=some d/\V9 d=ti.agg/\aoW P d ti.k
 sz:ti.agg=false->ti.size=1
 eq:ti.eqs=true->ao3 P t ti.size
theorem T2 {v:Value} (h:E4 v=true):v.oneCell'=true:=by
 unfold E4 at h
 split at h<;>first | rfl | cases h
theorem adA {ι:j8} {v:Value} (h:E4 v=true):VR ι v v:=by
 unfold E4 at h
 split at h<;>first | exact .bool _ | exact .int _ _ | exact .str _ | exact .b7 | exact .abA | exact .Q4 | cases h
theorem arx {ι:j8} {v:Value} (h:abC v=true):VR ι v v:=by
 unfold abC at h
 split at h
 ·rename_i cs
  have hall:∀ (i:Nat) (u:Value),cs[i]? = some u->E4 u=true:=fun i u e=>by
   obtain ⟨hi,rfl⟩:=Array.getElem?_eq_some_iff.1 e
   simp only [Array.all_eq_true] at h
   exact h i hi
  exact .agg rfl (fun i v v' e e'=>by rw [e] at e'; cases e'; exact adA (hall i v e)) fun i v e=>T2 (hall i v e)
 ·exact adA h
end Go.AM

/- Each operation of the abstract machine stands for what the world does: operands, and the operations that do nothing to memory. -/
namespace Go.AM
set_option linter.unusedSimpArgs false
set_option linter.unusedVariables false
inductive Ev (X:Ctx) (st:St):Operand->EV->Prop
 | tmp {t:Tmp} {e:EV}:look st.env t=some e->Ev X st (.tmp t) e
 | const {v:Value}:abC v=true->Ev X st (.const v) (.val v)
 | D0 {g:Nat}:g<X.ng->Ev X st (.global g) (.val (.pointer (some ⟨g,0,none⟩)))
 | func (f:FuncId):Ev X st (.func f) (.val (.func (.func f) #[] #[]))
def N7 (X:Ctx) (ι:j8) (ρ:Nat->Nat) (st:St) (a:Act) (o:Oper):Prop :=
 GOk X.ng ι/\ah8 ι st.hp/\∀ t e,Operand.tmp t ∈ o.op.operands->look st.env t=some e->ER ι ρ e (a.eval (.tmp t))
theorem Ev.rel {X:Ctx} {ι:j8} {ρ:Nat->Nat} {st:St} {a:Act} {o:Oper} {x:Operand} {e:EV} (h:Ev X st x e) (hr:N7 X ι ρ st a o) (hm:x ∈ o.op.operands):ER ι ρ e (a.eval x):=by
 cases h with
 | tmp h=>exact hr.2.2 _ _ hm h
 | const h=>exact .val (arx h)
 | D0 h=>obtain ⟨⟨gb,go,gr,gs⟩,e,e1,e2⟩:=hr.1 _ h
         simp only at e1 e2; subst e1 e2
         exact .val (by have:=VR.ptr (ι:=ι) (o:=0) e; simpa [Act.eval] using this)
 | func f=>exact .val (.fn rfl (fun i v v' h=>by simp at h))
theorem Ev.A1 {X:Ctx} {ι:j8} {ρ:Nat->Nat} {st:St} {a:Act} {o:Oper} {x:Operand} {v:Value} (h:Ev X st x (.val v)) (hr:N7 X ι ρ st a o) (hm:x ∈ o.op.operands):VR ι v (a.eval x):=by
 have:=h.rel hr hm
 cases this; assumption
section
variable {R:Type} {X:Ctx} {st:St} {r:R}
theorem aa8 {x:Operand} {K:EV->Option R} (h:S2 X st x K=some r):∃ e,Ev X st x e/\K e=some r:=by
 cases x with
 | tmp t =>
   simp only [S2] at h
   cases e:look st.env t with
   | none=>rw [e] at h; cases h
   | some e'=>rw [e] at h; exact ⟨e',.tmp e,h⟩
 | const v =>
   simp only [S2] at h
   cases e:abC v with
   | true=>rw [e] at h; exact ⟨_,.const e,h⟩
   | false=>rw [e] at h; cases h
 | global g =>
   simp only [S2] at h
   cases e:Nat.blt g X.ng with
   | true=>rw [e] at h; exact ⟨_,.D0 (by simp [Nat.blt,Nat.ble_eq] at e; omega),h⟩
   | false=>rw [e] at h; cases h
 | func f=>exact ⟨_,.func f,h⟩
theorem y6 {x:Operand} {K:Value->Option R} (h:D3 X st x K=some r):∃ v,Ev X st x (.val v)/\K v=some r:=by
 obtain ⟨e,he,hk⟩:=aa8 h
 cases e with
 | val v=>exact ⟨v,he,hk⟩
 | loc k o=>cases hk
 | B4=>cases hk
inductive Evs (X:Ctx) (st:St):List Operand->List Value->Prop
 | nil:Evs X st [] []
 | cons {x:Operand} {v:Value} {xs:List Operand} {vs:List Value}:Ev X st x (.val v)->Evs X st xs vs->Evs X st (x::xs) (v::vs)
theorem agM:∀ {xs:List Operand} {K:List Value->Option R},aaR X st xs K=some r->∃ vs,Evs X st xs vs/\K vs=some r
 | [],K,h=>⟨[],.nil,h⟩
 | x::xs,K,h=>by
   obtain ⟨v,hv,h⟩:=y6 h
   obtain ⟨vs,hvs,h⟩:=agM h
   exact ⟨v::vs,.cons hv hvs,h⟩
def ae6 (X:Ctx) (st:St):Option Operand->Option Value->Prop
 | none,none=>True
 | some x,some v=>Ev X st x (.val v)
 | _,_=>False
theorem afK {x:Option Operand} {K:Option Value->Option R} (h:voK X st x K=some r):∃ v,ae6 X st x v/\K v=some r:=by
 cases x with
 | none=>exact ⟨none,trivial,h⟩
 | some x =>
   obtain ⟨v,hv,h⟩:=y6 h
   exact ⟨some v,hv,h⟩
end
inductive A0 (ι:j8):List Value->List Value->Prop
 | nil:A0 ι [] []
 | cons {v v':Value} {vs vs':List Value}:VR ι v v'->A0 ι vs vs'->A0 ι (v::vs) (v'::vs')
theorem A0.mono {ι ι':j8} (hs:Sub ι ι') {vs vs':List Value} (h:A0 ι vs vs'):A0 ι' vs vs':=by
 induction h with
 | nil=>exact .nil
 | cons h _ ih=>exact .cons (h.mono hs) ih
theorem A0.append {ι:j8} {a a' b b':List Value} (h:A0 ι a a') (k:A0 ι b b'):A0 ι (a++b) (a'++b'):=by
 induction h with
 | nil=>exact k
 | cons h _ ih=>exact .cons h ih
theorem A0.length {ι:j8} {a a':List Value} (h:A0 ι a a'):a.length=a'.length:=by
 induction h with
 | nil=>rfl
 | cons _ _ ih=>simp [ih]
theorem A0.get {ι:j8} {a a':List Value} (h:A0 ι a a'):∀ {i:Nat} {v:Value},a[i]? = some v->∃ v',a'[i]? = some v'/\VR ι v v':=by
 induction h with
 | nil=>intro i v e; simp at e
 | cons h _ ih =>
   intro i v e
   cases i with
   | zero=>simp at e; subst e; exact ⟨_,by simp,h⟩
   | succ i=>simp at e; simpa using ih e
theorem A0.abT {ι:j8}:∀ {a a':List Value},a.length=a'.length->(∀ (i:Nat) (v v':Value),a[i]? = some v->a'[i]? = some v'->VR ι v v')->A0 ι a a'
 | [],[],_,_ => .nil
 | v::vs,v'::vs',hl,h => .cons (h 0 v v' (by simp) (by simp)) (A0.abT (by simpa using hl) fun i x y e e'=>h (i+1) x y (by simpa using e) (by simpa using e'))
 | [],_::_,hl,_=>by simp at hl
 | _::_,[],hl,_=>by simp at hl
theorem Evs.rel {X:Ctx} {ι:j8} {ρ:Nat->Nat} {st:St} {a:Act} {o:Oper} {xs:List Operand} {vs:List Value} (h:Evs X st xs vs) (hr:N7 X ι ρ st a o) :
 (∀ x ∈ xs,x ∈ o.op.operands)->A0 ι vs (xs.map a.eval):=by
 induction h with
 | nil=>intro _; exact .nil
 | cons h _ ih=>intro hm; exact .cons (h.A1 hr (hm _ (by simp))) (ih fun x hx=>hm x (by simp [hx]))
def n7 (hp hp':Heap):Prop:=∀ (b:Nat) (k:j4),hp[b]? = some k->∃ k':j4,hp'[b]? = some k'/\k'.sz=k.sz
def U3 (n:Nat) (ι ι':j8):Prop:=∀ b,b<n->ι' b=ι b
def Still (P:Program) (o:Oper) (a:Act) (w:World) (Y:Value->Prop):Prop:=∃ v',(execOp a.eval o).run P w = .ok (.value v') w/\Y v'
def n9 (P:Program) (X:Ctx) (o:Oper) (st:St) (e:EV) (loc':List (Nat × List Value)) (hp':Heap):A8->Prop
 | .P=>loc'=st.loc/\hp'=st.hp/\(∀ k d,e = .loc k d->∃ t d',look st.env t=some (.loc k d')/\Operand.tmp t ∈ o.op.operands) ∧
   ∀ ι ρ a w,N7 X ι ρ st a o->Still P o a w (ER ι ρ e)
 | .L k=>loc'=st.loc/\hp'=st.hp/\∃ v cells,e = .val v/\look st.loc k=some cells ∧
   ∀ ι ρ a w,N7 X ι ρ st a o->W6 ι cells w (ρ k)->Still P o a w (VR ι v)
 | .S k=>e = .B4/\hp'=st.hp/\∃ p7 cells,look st.loc k=some p7/\loc'=U1 st.loc k cells/\cells.length=p7.length ∧
   ∀ ι ρ a w,N7 X ι ρ st a o->W6 ι p7 w (ρ k)->∃ w',(execOp a.eval o).run P w = .ok .skip w'/\W6 ι cells w' (ρ k) ∧
     w'.os=w.os/\w'.tape=w.tape/\w'.output=w.output/\w'.heap.size=w.heap.size/\∀ j,j ≠ ρ k->w'.heap[j]? = w.heap[j]?
 | .N k=>e = .loc k 0/\o.dst=some k/\hp'=st.hp/\look st.loc k=none/\∃ cells,loc'=(k,cells)::st.loc ∧
   ∀ ι ρ a w,N7 X ι ρ st a o->∃ obj,(execOp a.eval o).run P w = .ok (.value (.pointer (some ⟨w.heap.size,0,none⟩))) (w.alloc obj)/\W6 ι cells (w.alloc obj) w.heap.size
 | .H=>loc'=st.loc/\hp'=st.hp/\∃ v,e = .val v ∧
   ∀ ι ρ a w B Nx Q,N7 X ι ρ st a o->Rel X.ng ι st.hp w B->(∀ v' w',Rel X.ng ι st.hp w' B->Fr ι st.hp w w'->VR ι v v'->Nx (a.put o.dst v') w')->o.wp P a w Nx Q
 | .A=>loc'=st.loc/\(∃ new,hp'=st.hp++new)/\∃ v,e = .val v ∧
   ∀ ι ρ a w B Nx Q,N7 X ι ρ st a o->Rel X.ng ι st.hp w B →
     (∀ ι' v' w',U3 st.hp.length ι ι'->(∀ b x k,st.hp.length<=b->ι' b=some x->j7 hp' b=some k->w.heap.size<=x.w5)->Rel X.ng ι' hp' w' B->Fr ι st.hp w w'->VR ι' v v'->Nx (a.put o.dst v') w')->o.wp P a w Nx Q
 | .W=>loc'=st.loc/\n7 st.hp hp'/\(∀ k d,e ≠ .loc k d) ∧
   ∀ ι ρ a w B Nx Q,N7 X ι ρ st a o->Rel X.ng ι st.hp w B →
     (∀ ι' v' w',U3 st.hp.length ι ι'->Rel X.ng ι' hp' w' B->Fr ι st.hp w w'->Own ι st.hp w ι' hp'->ER ι' ρ e v'->Nx (a.put o.dst v') w')->o.wp P a w Nx Q
theorem akc {ng:Nat} {ι ι':j8} {hp new:Heap} {w:World} {B:Nat} (hR:Rel ng ι hp w B) (h1:U3 hp.length ι ι') (h2:∀ b x k,hp.length<=b->ι' b=some x->j7 (hp++new) b=some k->w.heap.size<=x.w5):Own ι hp w ι' (hp++new):=by
 intro b x k hb hk hx
 by_cases hl:b<hp.length
 ·rw [w9 _ hl] at hk
  exact ⟨b,x,k,by rw [<-h1 b hl]; exact hb,hk,.inl rfl,id,rfl⟩
 ·have:=h2 b x k (by omega) hb hk; omega
theorem G0 {P:Program} {o:Oper} {a:Act} {w w':World} {v:Value} {Nx:Act->World->Prop} {Q:Exit->Act->World->Prop}
 (h:(execOp a.eval o).run P w = .ok (.value v) w') (hn:Nx (a.put o.dst v) w'):o.wp P a w Nx Q:=by
 unfold Oper.wp; rw [h]; exact hn
theorem aeI {P:Program} {o:Oper} {a:Act} {w w':World} {Nx:Act->World->Prop} {Q:Exit->Act->World->Prop}
 (h:(execOp a.eval o).run P w = .ok .skip w') (hn:Nx (a.put o.dst undef) w'):o.wp P a w Nx Q:=by
 unfold Oper.wp; rw [h]; exact hn
theorem adn {P:Program} {ι:j8} {op:BinOp} {k:IntKind} {x y:Int} {v:Value} (h:aoL op k x y=some v) (w:World) :
 (Op.intBits op k x y).run P w = .ok v w/\VR ι v v:=by
 unfold aoL at h
 split at h<;>cases h<;>exact ⟨by simp [Op.intBits],.int _ _⟩
theorem ao4 {P:Program} {ι:j8} {op:BinOp} {k:IntKind} {x y:Int} {v:Value} (h:O4 op k x y=some v) (h1:op ≠ .shl) (h2:op ≠ .shr) (t:TypeId) (w:World) :
 (binOp op t (.int k x) (.int k y)).run P w = .ok v w/\VR ι v v:=by
 cases op<;>simp only [O4] at h
 case quo=>split at h
           ·cases h
           ·cases h; rename_i hb; exact ⟨by simp [binOp,Op.intDiv,hb],.int _ _⟩
 case rem=>split at h
           ·cases h
           ·cases h; rename_i hb; exact ⟨by simp [binOp,Op.intDiv,hb],.int _ _⟩
 case shl=>exact absurd rfl h1
 case shr=>exact absurd rfl h2
 case and=>have:=adn (P:=P) (ι:=ι) h w; exact ⟨by simpa [binOp] using this.1,this.2⟩
 case or=>have:=adn (P:=P) (ι:=ι) h w; exact ⟨by simpa [binOp] using this.1,this.2⟩
 case xor=>have:=adn (P:=P) (ι:=ι) h w; exact ⟨by simpa [binOp] using this.1,this.2⟩
 case andNot=>have:=adn (P:=P) (ι:=ι) h w; exact ⟨by simpa [binOp] using this.1,this.2⟩
 all_goals (cases h; first | exact ⟨by simp [binOp,Op.intArith],.int _ _⟩ | exact ⟨by simp [binOp,Op.intCmp],.bool _⟩)
theorem aoI {P:Program} {ι:j8} {op:BinOp} {a b:ByteArray} {v:Value} (h:aer op a b=some v) (t:TypeId) (w:World) :
 (binOp op t (.string a) (.string b)).run P w = .ok v w/\VR ι v v:=by
 cases op<;>simp only [aer] at h
 case add =>
  split at h
  ·cases h
   rename_i hs
   have:¬ ((a.size:Int)+(b.size:Int)>IntKind.i64.max):=by have:IntKind.i64.max=9223372036854775807:=rfl; omega
   exact ⟨by simp [binOp,Op.stringOp]; omega,.str _⟩
  ·cases h
 all_goals first | (cases h; done) | (cases h; exact ⟨by simp [binOp,Op.stringOp],.bool _⟩)
theorem am2 {P:Program} {op:BinOp} {t:TypeId} {x y:Operand} {a b:Value} (ha:∀ cs,a ≠ .agg cs) (hn:a ≠ .nilIface) (w:World):(eqGuard op t x y a b).run P w = .ok () w:=by
 unfold eqGuard
 cases a<;>first
  | exact absurd rfl hn
  | exact absurd rfl (ha _)
  | (cases op<;>simp)
theorem arM {P:Program} {ι:j8} {d:TypeDesc} {tk:TK} {op:BinOp} {t:TypeId} {x y x' y' v:Value} {ox oy:Operand} (hd:P.underlying t=some d) (hk:aoW P d tk)
 (h:O2 tk op x y=some v) (hx:VR ι x x') (hy:VR ι y y') (w:World) :
 (eqGuard op t ox oy x' y').run P w = .ok () w/\(binOp op t x' y').run P w = .ok v w/\VR ι v v:=by
 have key:(binOp op t x' y').run P w = .ok v w/\VR ι v v:=by
  unfold O2 at h
  split at h
  ·rename_i k a k' b
   cases hx; cases hy
   split at h
   ·split at h
    ·cases h; rename_i hb
     have hb':¬ b<0:=by omega
     exact ⟨by simp [binOp,Op.shift,hb'],.int _ _⟩
    ·cases h
   ·split at h
    ·cases h; rename_i hb
     have hb':¬ b<0:=by omega
     exact ⟨by simp [binOp,Op.shift,hb'],.int _ _⟩
    ·cases h
   ·rename_i h1 h2
    split at h
    ·rename_i hk'; subst hk'; exact ao4 h h1 h2 t w
    ·cases h
  ·cases hx; cases hy; exact aoI h t w
  ·rename_i h1 h2
   have hE:∀ b,vEq tk x y=some b->(Op.equal t x' y').run P w = .ok b w/\(∀ (k:IntKind) (n:Int),x' ≠ .int k n)/\(∀ s,x' ≠ .string s)/\(∀ a,x' ≠ .pointer a)/\(∀ a,y' ≠ .pointer a)/\(∀ (k:FloatKind) (n:Nat),x' ≠ .float k n)/\(∀ (k:FloatKind) (n m:Nat),x' ≠ .complex k n m):=by
    intro b hb
    unfold vEq at hb
    split at hb
    ·cases hx; cases hy; cases hb
     have hd':P.underlying t=some .bool:=by rw [hd,hk]
     exact ⟨run_equal_bool w t _ _ hd',by simp,by simp,by simp,by simp,by simp,by simp⟩
    ·cases hy
     obtain ⟨rfl,_⟩:=hk
     cases hb
     cases hx<;>exact ⟨run_equal_slice_nil w t _ _ _ _ hd,by simp,by simp,by simp,by simp,by simp,by simp⟩
    ·cases hb
   split at h
   ·cases e:vEq tk x y with
    | none=>rw [e] at h; cases h
    | some b =>
      rw [e] at h; cases h
      obtain ⟨hr,n1,n2,n3,n4,n5,n6⟩:=hE b e
      refine ⟨?_,.bool _⟩
      cases x'<;>first | exact absurd rfl (n1 _ _) | exact absurd rfl (n2 _) | exact absurd rfl (n3 _) | exact absurd rfl (n5 _ _) | exact absurd rfl (n6 _ _ _) | (cases y'<;>first | exact absurd rfl (n4 _) | simp [binOp,hr])
   ·cases e:vEq tk x y with
    | none=>rw [e] at h; cases h
    | some b =>
      rw [e] at h; cases h
      obtain ⟨hr,n1,n2,n3,n4,n5,n6⟩:=hE b e
      refine ⟨?_,.bool _⟩
      cases x'<;>first | exact absurd rfl (n1 _ _) | exact absurd rfl (n2 _) | exact absurd rfl (n3 _) | exact absurd rfl (n5 _ _) | exact absurd rfl (n6 _ _ _) | (cases y'<;>first | exact absurd rfl (n4 _) | simp [binOp,hr])
   ·cases h
 have hg:(eqGuard op t ox oy x' y').run P w = .ok () w:=by
  refine am2 ?_ ?_ w
  ·rintro cs rfl
   cases hx with | agg =>
   unfold O2 at h
   split at h
   ·exact absurd ‹Value.agg _=Value.int _ _› (by simp)
   ·exact absurd ‹Value.agg _=Value.string _› (by simp)
   ·simp only [vEq] at h; split at h<;>simp at h
  ·rintro rfl; cases hx
 exact ⟨hg,key.1,key.2⟩
end Go.AM

/- The operations that do nothing to memory, one by one. -/
namespace Go.AM
set_option linter.unusedSimpArgs false
set_option linter.unusedVariables false
section
variable {P:Program} {X:Ctx} {o:Oper} {st:St}
theorem J1 {v:Value} (h:∀ ι ρ a w,N7 X ι ρ st a o->Still P o a w (VR ι v)):n9 P X o st (.val v) st.loc st.hp .P :=
 ⟨rfl,rfl,fun k d e=>by (cases e),fun ι ρ a w hr=>by
  obtain ⟨v',h1,h2⟩:=h ι ρ a w hr
  exact ⟨v',h1,.val h2⟩⟩
theorem akX {x:Operand} {e:EV} (ho:o.op = .move x\/o.op = .assign x) (hx:Ev X st x e):n9 P X o st e st.loc st.hp .P:=by
 have hm:x ∈ o.op.operands:=by rcases ho with h | h<;>simp [h,Op.operands]
 refine ⟨rfl,rfl,fun k d h=>?_,fun ι ρ a w hr=>⟨a.eval x,?_,hx.rel hr hm⟩⟩
 ·subst h; cases hx with | tmp h=>exact ⟨_,_,h,hm⟩
 ·rcases ho with h | h<;>simp [execOp,h]
theorem ags {c x y:Operand} {vc v:Value} {ex ey:EV} (ho:o.op = .pick c x y) (hc:Ev X st c (.val vc)) (hx:Ev X st x ex) (hy:Ev X st y ey)
 (h:(vc = .bool true/\ex = .val v)\/(vc = .bool false/\ey = .val v)):n9 P X o st (.val v) st.loc st.hp .P:=by
 refine J1 fun ι ρ a w hr=>?_
 have h1:=hc.A1 hr (by simp [ho,Op.operands])
 rcases h with ⟨rfl,rfl⟩ | ⟨rfl,rfl⟩
 ·have e:a.eval c = .bool true:=by generalize a.eval c=q at *; cases h1; rfl
  exact ⟨_,by simp [execOp,ho,e,asBool],hx.A1 hr (by simp [ho,Op.operands])⟩
 ·have e:a.eval c = .bool false:=by generalize a.eval c=q at *; cases h1; rfl
  exact ⟨_,by simp [execOp,ho,e,asBool],hy.A1 hr (by simp [ho,Op.operands])⟩
theorem ahr:∀ {l m:List Value} {b:Bool},O3 l m=some b->(∀ v ∈ l,∃ s,v = .string s)/\∀ v ∈ m,∃ s,v = .string s
 | [],[],_,_=>⟨by simp,by simp⟩
 | v::l,u::m,b,h=>by
   cases v<;>cases u<;>simp only [O3] at h<;>try (cases h; done)
   cases e:O3 l m with
   | none=>rw [e] at h; cases h
   | some r =>
     have ih:=ahr e
     exact ⟨fun v hv=>by rcases List.mem_cons.1 hv with rfl | hv; exact ⟨_,rfl⟩; exact ih.1 v hv,fun v hv=>by rcases List.mem_cons.1 hv with rfl | hv; exact ⟨_,rfl⟩; exact ih.2 v hv⟩
 | [],_::_,_,h=>by cases h
 | v::_,[],_,h=>by cases v<;>cases h
theorem anS {ι:j8} {A A':Array Value} (hz:A.size=A'.size) (hc:∀ (i:Nat) v v',A[i]? = some v->A'[i]? = some v'->VR ι v v') (hs:∀ v ∈ A.toList,∃ s,v = .string s):A'=A:=by
 refine Array.ext hz.symm fun i h1 h2=>?_
 obtain ⟨s,e⟩:=hs A[i] (by simp)
 have:=hc i A[i] A'[i] (Array.getElem?_eq_getElem h2) (Array.getElem?_eq_getElem h1)
 rw [e] at this ⊢
 generalize A'[i]=q at *
 cases this
 rfl
theorem amD {P:Program} {t:TypeId} (hu:P.underlying t=some .string) {xs:Array Value} {off:Nat} {v:Value} (hx:xs[off]? = some v) (w:World):(part t xs off).run P w = .ok v w:=by
 simp [part,isAgg,run_underlying hu,hx]
theorem agd {P:Program} {d:Nat} {xs ys:Array Value} {w:World}:∀ {fs:List Field} {i:Nat} {b:Bool},
 (∀ (j:Nat) (f:Field),fs[j]? = some f->f.name ≠ "_"/\f.offset=i+j/\P.underlying f.type=some .string)->O3 (xs.toList.drop i) (ys.toList.drop i)=some b->(xs.toList.drop i).length=fs.length →
 (Op.eqFields (d+1) xs ys fs).run P w = .ok b w
 | [],i,b,hf,h,hl=>by
   have hx:xs.toList.drop i=[]:=List.length_eq_zero_iff.1 hl
   rw [hx] at h
   cases hy:ys.toList.drop i with
   | nil=>rw [hy] at h; cases h; simp [Op.eqFields]
   | cons y l=>rw [hy] at h; cases h
 | f::fs,i,b,hf,h,hl=>by
   obtain ⟨hn,ho,hu⟩:=hf 0 f rfl
   cases hx:xs.toList.drop i with
   | nil=>rw [hx] at hl; simp at hl
   | cons x l =>
     cases hy:ys.toList.drop i with
     | nil=>rw [hx,hy] at h; cases x<;>cases h
     | cons y m =>
       rw [hx,hy] at h
       have gx:xs[i]? = some x:=by
        have:=congrArg (fun l=>l[0]?) hx
        simpa using this
       have gy:ys[i]? = some y:=by
        have:=congrArg (fun l=>l[0]?) hy
        simpa using this
       have dx:xs.toList.drop (i+1)=l:=by rw [<-List.drop_drop,hx]; rfl
       have dy:ys.toList.drop (i+1)=m:=by rw [<-List.drop_drop,hy]; rfl
       cases x<;>cases y<;>simp only [O3] at h<;>try (cases h; done)
       rename_i a c
       cases e:O3 l m with
       | none=>rw [e] at h; cases h
       | some r =>
         rw [e] at h
         cases h
         have ih:=agd (d:=d) (xs:=xs) (ys:=ys) (w:=w) (fs:=fs) (i:=i+1) (b:=r) (fun j g hg=>by
          have:=hf (j+1) g hg
          exact ⟨this.1,by omega,this.2.2⟩) (by rw [dx,dy]; exact e) (by rw [dx]; rw [hx] at hl; simpa using hl)
         have ho':f.offset=i:=by omega
         unfold Op.eqFields
         rw [if_pos hn,ho']
         simp only [Sem.run_bind,amD hu gx,amD hu gy,Result.andThen_ok,run_equalIn_string w d f.type a c hu,Sem.run_ite]
         rw [beq_toListBytes]
         cases (a.toList==c.toList)
         ·simp
         ·simpa using ih
theorem aq6 {P:Program} {ι:j8} {n:Nat} {op:BinOp} {t:TypeId} {x y x' y' v:Value} {ox oy:Operand} (ht:ao3 P t n) (h:ao6 n op x y=some v) (hx:VR ι x x') (hy:VR ι y y') (w:World) :
 (eqGuard op t ox oy x' y').run P w = .ok () w/\(binOp op t x' y').run P w = .ok v w/\VR ι v v:=by
 obtain ⟨h1,h2,fs,h3,h4,h5⟩:=ht
 unfold ao6 at h
 split at h
 ·rename_i A B
  split at h
  ·rename_i hz
   cases e:O3 A.toList B.toList with
   | none=>rw [e] at h; cases h
   | some b =>
     rw [e] at h
     obtain ⟨sa,sb⟩:=ahr e
     cases hx with
     | @agg _ A' za ca _ =>
       cases hy with
       | @agg _ B' zb cb _ =>
         cases anS za ca sa
         cases anS zb cb sb
         have hF:P.fieldsOf t=fs:=by unfold Program.fieldsOf; rw [h3]
         have hr:(Op.equalIn 10000 t (.agg A) (.agg B)).run P w = .ok b w:=by
          rw [run_equalIn_struct w 9999 t A B (by rw [hF]; exact h3) h2,hF]
          exact agd (d:=9998) (i:=0) (fun j f hf=>by have:=h5 j f hf; exact ⟨this.1,by omega,this.2.2⟩) (by simpa using e) (by simp; omega)
         refine ⟨run_eqGuard_agg w op t ox oy A B h1,?_⟩
         simp only [Option.bind_some] at h
         split at h
         ·cases h
          exact ⟨by rw [run_eql_struct,hr]; rfl,.bool _⟩
         ·cases h
          exact ⟨by rw [run_neq_struct,hr]; rfl,.bool _⟩
         ·cases h
  ·cases h
 ·cases h
theorem aoP {op:BinOp} {t yt:TypeId} {x y:Operand} {ti:TI} {va vb v:Value} (ho:o.op = .binOp op t x y yt) (ht:K8 P t ti) (hx:Ev X st x (.val va)) (hy:Ev X st y (.val vb))
 (h:ae9 ti op va vb=some v):n9 P X o st (.val v) st.loc st.hp .P:=by
 refine J1 fun ι ρ a w hr=>?_
 obtain ⟨d,hd,_,hk⟩:=ht.und
 unfold ae9 at h
 split at h
 ·rename_i he
  obtain ⟨h0,h1,h2⟩:=aq6 (ox:=x) (oy:=y) (ht.eq he) h (hx.A1 hr (by simp [ho,Op.operands])) (hy.A1 hr (by simp [ho,Op.operands])) w
  exact ⟨v,by simp [execOp,ho,h0,h1],h2⟩
 obtain ⟨h0,h1,h2⟩:=arM (P:=P) (ox:=x) (oy:=y) hd hk h (hx.A1 hr (by simp [ho,Op.operands])) (hy.A1 hr (by simp [ho,Op.operands])) w
 exact ⟨v,by simp [execOp,ho,h0,h1],h2⟩
theorem aqu {op:UnOp} {t:TypeId} {x:Operand} {va v:Value} (ho:o.op = .unOp op t x) (hx:Ev X st x (.val va))
 (h:vUn op va=some v):n9 P X o st (.val v) st.loc st.hp .P:=by
 refine J1 fun ι ρ a w hr=>?_
 have h1:=hx.A1 hr (by simp [ho,Op.operands])
 unfold vUn at h
 split at h
 ·cases h
  generalize hq:a.eval x=q at *
  cases h1
  exact ⟨_,by simp [execOp,ho,hq,Op.unary,Op.intArith],.int _ _⟩
 ·cases h
  generalize hq:a.eval x=q at *
  cases h1
  exact ⟨_,by simp [execOp,ho,hq,Op.unary],.bool _⟩
 ·cases h
theorem aoS {src dst:TypeId} {x:Operand} {k k':IntKind} {va v:Value} (ho:o.op = .convert src dst x) (hs:P.underlying src=some (.int k')) (hd:P.underlying dst=some (.int k)) (hx:Ev X st x (.val va))
 (h:ajh k va=some v):n9 P X o st (.val v) st.loc st.hp .P:=by
 refine J1 fun ι ρ a w hr=>?_
 have h1:=hx.A1 hr (by simp [ho,Op.operands])
 unfold ajh at h
 split at h
 ·cases h
  generalize e:a.eval x=q at *
  cases h1
  exact ⟨_,by simp [execOp,ho,e,convert,run_underlying hs,run_underlying hd,Conv.intToInt],.int _ _⟩
 ·cases h
theorem aoA {src dst:TypeId} {x:Operand} {va v:Value} (ho:o.op = .convert src dst x) (hs:P.underlying src=some .string) (hd:P.underlying dst=some .string) (hx:Ev X st x (.val va))
 (h:ah6 va=some v):n9 P X o st (.val v) st.loc st.hp .P:=by
 refine J1 fun ι ρ a w hr=>?_
 have h1:=hx.A1 hr (by simp [ho,Op.operands])
 unfold ah6 at h
 split at h
 ·cases h
  generalize e:a.eval x=q at *
  cases h1
  exact ⟨_,by simp [execOp,ho,e,convert,run_underlying hs,run_underlying hd],.str _⟩
 ·cases h
theorem ak3 {fn:Fn} {first captured:Array Operand} {vs:List Value} (ho:o.op = .makeFunc fn first captured) (hf:first.size=0) (hx:Evs X st captured.toList vs) :
 n9 P X o st (.val (.func fn #[] vs.toArray)) st.loc st.hp .P:=by
 refine J1 fun ι ρ a w hr=>?_
 have hm:=hx.rel hr (fun x hx=>by simp [ho,Op.operands]; exact .inr (by simpa using hx))
 have hf':first = #[]:=Array.eq_empty_of_size_eq_zero hf
 refine ⟨.func fn #[] (captured.map a.eval),by simp [execOp,ho,Instr.makeFunc,hf'],?_⟩
 refine .fn (by have:=hm.length; simpa using this) fun i v v' e e'=>?_
 obtain ⟨u,hu,hv⟩:=hm.get (i:=i) (v:=v) (by simpa using e)
 have:(captured.map a.eval)[i]? = some u:=by rw [<-hu]; simp
 rw [this] at e'; cases e'; exact hv
theorem alu {x:Operand} {i:Nat} {va v:Value} (ho:o.op = .extract x i) (hx:Ev X st x (.val va)) (h:amw va i=some v):n9 P X o st (.val v) st.loc st.hp .P:=by
 refine J1 fun ι ρ a w hr=>?_
 have h1:=hx.A1 hr (by simp [ho,Op.operands])
 unfold amw at h
 split at h
 ·rename_i cs
  generalize hq:a.eval x=q at *
  cases h1 with
  | @tuple _ cs' hz hc =>
    have hi:i<cs'.size:=by rw [<-hz]; exact (Array.getElem?_eq_some_iff.1 h).1
    exact ⟨cs'[i],by simp [execOp,ho,hq,Instr.extract,Array.getElem?_eq_getElem hi],hc i v _ h (Array.getElem?_eq_getElem hi)⟩
 ·cases h
theorem apy {t:TypeId} {x:Operand} {f:Nat} {fields:Array Field} {fd:Field} {g:TypeInfo} {va v:Value} (ho:o.op = .fieldAddr t x f) (hd:P.underlying t=some (.struct fields)) (hf:fields[f]? = some fd)
 (hg:P.info? fd.type=some g) (h0:0<g.size) (hx:Ev X st x (.val va)) (h:ami va fd.offset=some v):n9 P X o st (.val v) st.loc st.hp .P:=by
 refine J1 fun ι ρ a w hr=>?_
 have h1:=hx.A1 hr (by simp [ho,Op.operands])
 have h0':g.size ≠ 0:=by omega
 unfold ami at h
 split at h
 ·rename_i b off
  cases h
  generalize hq:a.eval x=q at *
  cases h1 with
  | @ptr _ _ y hy =>
    refine ⟨.pointer (some ⟨y.w5,y.off+(off+fd.offset),none⟩),?_,.ptr hy⟩
    simp [execOp,ho,hq,Instr.fieldAt,run_underlying hd,hf,Instr.sureAddr,fieldPlace,sizeOf,typeInfo,hg,h0',Addr.add]
    split<;>simp_all [Nat.add_assoc]
 ·cases h
theorem anf {t:TypeId} {x:Operand} {f:Nat} {fields:Array Field} {fd:Field} {g:TypeInfo} {k d:Nat} (ho:o.op = .fieldAddr t x f) (hd:P.underlying t=some (.struct fields)) (hf:fields[f]? = some fd)
 (hg:P.info? fd.type=some g) (h0:0<g.size) (hx:Ev X st x (.loc k d)):n9 P X o st (.loc k (d+fd.offset)) st.loc st.hp .P:=by
 refine ⟨rfl,rfl,fun k' d' e=>by cases e; cases hx with | tmp h=>exact ⟨_,_,h,by simp [ho,Op.operands]⟩,fun ι ρ a w hr=>?_⟩
 have h1:=hx.rel hr (by simp [ho,Op.operands])
 have h0':g.size ≠ 0:=by omega
 generalize hq:a.eval x=q at *
 cases h1
 refine ⟨.pointer (some ⟨ρ k,d+fd.offset,none⟩),?_,.loc _ _⟩
 simp [execOp,ho,hq,Instr.fieldAt,run_underlying hd,hf,Instr.sureAddr,fieldPlace,sizeOf,typeInfo,hg,h0',Addr.add]
theorem ak0 {x:Operand} {va v:Value} (ho:o.op = .nilCheck x) (hx:Ev X st x (.val va)) (h:akm va=some v):n9 P X o st (.val v) st.loc st.hp .P:=by
 refine J1 fun ι ρ a w hr=>?_
 have h1:=hx.A1 hr (by simp [ho,Op.operands])
 generalize hq:a.eval x=q at *
 cases h1 with
 | ptr hy=>cases h; exact ⟨_,by simp [execOp,ho,hq],.ptr hy⟩
 | @fn f cs cs' hz hc =>
   cases f with
   | func f=>cases h; exact ⟨.func (.func f) #[] cs',by simp [execOp,ho,hq],.fn hz hc⟩
   | _=>cases h
 | _=>cases h
theorem am6 {x:Operand} {k d:Nat} (ho:o.op = .nilCheck x) (hx:Ev X st x (.loc k d)):n9 P X o st (.loc k d) st.loc st.hp .P:=by
 refine ⟨rfl,rfl,fun k' d' e=>by cases e; cases hx with | tmp h=>exact ⟨_,_,h,by simp [ho,Op.operands]⟩,fun ι ρ a w hr=>?_⟩
 have h1:=hx.rel hr (by simp [ho,Op.operands])
 generalize hq:a.eval x=q at *
 cases h1
 exact ⟨.pointer (some ⟨ρ k,d,none⟩),by simp [execOp,ho,hq],.loc _ _⟩
theorem ap1 {t:TypeId} {x i:Operand} {e:TypeId} {g:TypeInfo} {va vi v:Value} (ho:o.op = .indexAddr t x i) (hd:P.underlying t=some (.slice e)) (hg:P.info? e=some g)
 (hx:Ev X st x (.val va)) (hi:Ev X st i (.val vi)) (h:ajI g.size va vi=some v):n9 P X o st (.val v) st.loc st.hp .P:=by
 refine J1 fun ι ρ a w hr=>?_
 have h1:=hx.A1 hr (by simp [ho,Op.operands])
 have h2:=hi.A1 hr (by simp [ho,Op.operands])
 unfold ajI at h
 split at h
 ·rename_i b off n c k j
  split at h
  ·rename_i hj
   cases h
   generalize hq:a.eval x=q at *
   generalize hq':a.eval i=q' at *
   cases h2
   cases h1 with
   | @slc _ _ _ _ _ y hy =>
     refine ⟨.pointer (some ⟨y.w5,y.off+(off+j.toNat*g.size),none⟩),?_,.ptr hy⟩
     simp [execOp,ho,hq,hq',Instr.indexAt,run_underlying hd,asIntOf,sizeOf,typeInfo,hg,hj,Addr.add]
     split<;>simp_all [Nat.add_assoc]
   | slz=>omega
  ·cases h
 ·cases h
theorem ao1 {t:TypeId} {x i:Operand} {e:TypeId} {n:Nat} {g:TypeInfo} {va vi v:Value} (ho:o.op = .indexAddr t x i) (hd:P.underlying t=some (.array n e)) (hg:P.info? e=some g)
 (hx:Ev X st x (.val va)) (hi:Ev X st i (.val vi)) (h:ajq n g.size va vi=some v):n9 P X o st (.val v) st.loc st.hp .P:=by
 refine J1 fun ι ρ a w hr=>?_
 have h1:=hx.A1 hr (by simp [ho,Op.operands])
 have h2:=hi.A1 hr (by simp [ho,Op.operands])
 unfold ajq at h
 split at h
 ·rename_i b off k j
  split at h
  ·rename_i hj
   cases h
   generalize hq:a.eval x=q at *
   generalize hq':a.eval i=q' at *
   cases h2
   cases h1 with
   | @ptr _ _ y hy =>
     refine ⟨.pointer (some ⟨y.w5,y.off+(off+j.toNat*g.size),none⟩),?_,.ptr hy⟩
     simp [execOp,ho,hq,hq',Instr.indexAt,run_underlying hd,asIntOf,sizeOf,typeInfo,hg,hj,Addr.add,Instr.sureAddr]
     split<;>simp_all [Nat.add_assoc]
  ·cases h
 ·cases h
theorem amb {t:TypeId} {x i:Operand} {va vi v:Value} (ho:o.op = .index t x i) (hd:P.underlying t=some .string)
 (hx:Ev X st x (.val va)) (hi:Ev X st i (.val vi)) (h:ad9 va vi=some v):n9 P X o st (.val v) st.loc st.hp .P:=by
 refine J1 fun ι ρ a w hr=>?_
 have h1:=hx.A1 hr (by simp [ho,Op.operands])
 have h2:=hi.A1 hr (by simp [ho,Op.operands])
 unfold ad9 at h
 split at h
 ·rename_i s k j
  split at h
  ·rename_i hj
   generalize hq:a.eval x=q at *
   generalize hq':a.eval i=q' at *
   cases h1; cases h2
   cases e:s[j.toNat]? with
   | none=>rw [e] at h; cases h
   | some b =>
     rw [e] at h; cases h
     exact ⟨_,by simp [execOp,ho,hq,hq',Instr.index,run_underlying hd,asIntOf,hj,e],.int _ _⟩
  ·cases h
 ·cases h
end
end Go.AM

/- Slices of strings and of slices, structs laid out of their parts. -/
namespace Go.AM
set_option linter.unusedSimpArgs false
set_option linter.unusedVariables false
section
variable {P:Program} {X:Ctx} {o:Oper} {st:St}
theorem P4 {x:Value} {i:Int} {y:Nat} (c:BoundsCode) (h:∃ k,x = .int k i) (h0:0<=i) (h1:i<=y) (w:World):(Instr.sliceBound x y c).run P w = .ok i.toNat w:=by
 obtain ⟨k,rfl⟩:=h
 simp [Instr.sliceBound,asIntOf,h0,h1]
def aub (ι:j8):Option Value->Option Value->Prop
 | none,none=>True
 | some v,some v'=>VR ι v v'
 | _,_=>False
theorem ac8 {ι:j8} {ρ:Nat->Nat} {a:Act} {x:Option Operand} {v:Option Value} (hr:N7 X ι ρ st a o) (hm:∀ y,x=some y->y ∈ o.op.operands)
 (h:ae6 X st x v):aub ι v (x.map a.eval):=by
 cases x<;>cases v<;>first | exact h | exact h.elim | skip
 exact Ev.A1 h hr (hm _ rfl)
theorem acH {ι:j8} {x x':Option Value} {d i:Int} (h:bnd x d=some i) (hr:aub ι x x'):(x'=none/\x=none/\i=d)\/∃ k,x'=some (.int k i)/\x=some (.int k i):=by
 unfold bnd at h
 split at h
 ·cases h; cases x' with
  | none=>exact .inl ⟨rfl,rfl,rfl⟩
  | some v=>exact hr.elim
 ·cases h; cases x' with
  | none=>exact hr.elim
  | some v=>cases hr; exact .inr ⟨_,rfl,rfl⟩
 ·cases h
theorem amZ {t:TypeId} {x:Operand} {lo hi:Option Operand} {va v:Value} {vl vh:Option Value} (ho:o.op = .slice t x lo hi none) (hd:P.underlying t=some .string) (hx:Ev X st x (.val va))
 (hl:ae6 X st lo vl) (hh:ae6 X st hi vh)
 (h:ael va vl vh=some v):n9 P X o st (.val v) st.loc st.hp .P:=by
 refine J1 fun ι ρ a w hr=>?_
 have h1:=hx.A1 hr (by simp [ho,Op.operands])
 have h2:=ac8 hr (by intro y hy; simp [ho,Op.operands,hy]) hl
 have h3:=ac8 hr (by intro y hy; simp [ho,Op.operands,hy]) hh
 unfold ael at h
 split at h
 ·rename_i s
  generalize hq:a.eval x=q at *
  cases h1
  cases e1:bnd vl 0 with
  | none=>rw [e1] at h; cases h
  | some l =>
  cases e2:bnd vh s.size with
  | none=>rw [e1,e2] at h; cases h
  | some k =>
  simp only [e1,e2,Option.bind_some] at h
  split at h
  ·rename_i hb
   cases h
   obtain ⟨hb1,hb2,hb3⟩:=hb
   refine ⟨_,?_,.str _⟩
   have hk:0<=k:=by omega
   have hlk:l<=(k.toNat:Int):=by omega
   simp only [execOp,ho,Instr.sliceAt,Instr.slice,Sem.run_bind,run_underlying hd,Result.andThen_ok,hq,Option.map_none]
   rcases acH e1 h2 with ⟨r1,_,q1⟩ | ⟨k1,r1,_⟩<;>rcases acH e2 h3 with ⟨r2,_,q2⟩ | ⟨k2,r2,_⟩<;>rw [r1,r2] <;>
    simp [Instr.sliceBounds,P4 (P:=P) _ ⟨_,rfl⟩ hk hb3,P4 (P:=P) _ ⟨_,rfl⟩ hb1 hlk, *]
   all_goals (try (rw [P4 (P:=P) _ ⟨_,rfl⟩ (by omega) (by omega)]; simp))
  ·cases h
 ·cases h
theorem avn {ι:j8} {hp:Heap} {b8 n b off:Nat} {x:Img} (h:szA hp b8 n (some ⟨b,off,none⟩)=true) (h0:0<n) (hb:ι b=some x) (hs:ah8 ι hp):x.sz=b8:=by
 cases n with
 | zero=>omega
 | succ n =>
   simp only [szA] at h
   cases e:hp[b]? with
   | none=>rw [e] at h; cases h
   | some k=>rw [e] at h; rw [<-hs b x k hb e]; exact Nat.eq_of_beq_eq_true h
theorem aiO {ι:j8} {a q':Option Addr} {n c c' b8 l k m:Nat} {hp:Heap} (full:Prop) [Decidable full] (h:VR ι (.slice a n c) (.slice q' n c')) (hs:ah8 ι hp) (hsz:szA hp b8 n a=true)
 (h1:l<=k) (h2:k<=n) (h3:k<=m) (h4:m<=c') (hf:full->m=k) (hnil:a=none->full):VR ι (.slice (aef a (l*b8)) (k-l) (aaw full (k-l))) (.slice (if m=l then q' else q'.map (·.add (l*b8))) (k-l) (m-l)):=by
 have zero:∀ (z z':Addr),k-l=0->VR ι (.slice (some z) (k-l) (aaw full (k-l))) (.slice (some z') (k-l) (m-l)):=by
  intro z z' hz
  rw [hz]
  refine .slz _ _ _ _ fun hc=>?_
  unfold aaw at hc
  split at hc
  ·rename_i hh; have:=hf hh; omega
  ·omega
 cases h with
 | abA =>
   have e1:l=0:=by omega
   have e2:k=0:=by omega
   have e3:m=0:=by omega
   subst e1 e2 e3
   have hfl:=hnil rfl
   simp [aaw,hfl,aef]; exact .abA
 | @slc b off _ _ _ y hy h0 hnc hcf hroom =>
   have hyz:y.sz=b8:=avn hsz h0 hy hs
   by_cases hz:k-l=0
   ·have:∃ z,(if m=l then some (⟨y.w5,y.off+off,none⟩:Addr) else (some (⟨y.w5,y.off+off,none⟩:Addr)).map (·.add (l*b8)))=some z:=by split<;>simp
    obtain ⟨z,hz'⟩:=this
    rw [hz']
    exact zero _ _ hz
   ·have hne:m ≠ l:=by omega
    rw [if_neg hne]
    have e1:(some (⟨y.w5,y.off+off,none⟩:Addr)).map (·.add (l*b8))=some ⟨y.w5,y.off+(off+l*b8),none⟩:=by
     simp only [Option.map_some,Addr.add]
     split<;>simp_all [Nat.add_assoc]
    rw [e1]
    refine .slc hy (by omega) (by omega) (fun hc=>?_) ?_
    ·unfold aaw at hc
     split at hc
     ·rename_i hh; rw [hf hh]
     ·omega
    ·subst hyz
     have:l*y.sz+(m-l)*y.sz=m*y.sz:=by rw [<-Nat.add_mul]; congr 1; omega
     have:m*y.sz<=c'*y.sz:=Nat.mul_le_mul_right _ h4
     have hroom':off+c'*y.sz<=y.room:=hroom
     show off+l*y.sz+(m-l)*y.sz<=y.room
     omega
 | slz a1 a2 _ _ hcc =>
   have hz:k-l=0:=by omega
   have:∃ z,(if m=l then some a2 else (some a2).map (·.add (l*b8)))=some z:=by split<;>simp
   obtain ⟨z,hz'⟩:=this
   rw [hz']
   exact zero _ _ hz
theorem am4 {t:TypeId} {x:Operand} {lo hi mx:Option Operand} {e:TypeId} {g:TypeInfo} {va v:Value} {vl vh vm:Option Value} (ho:o.op = .slice t x lo hi mx) (hd:P.underlying t=some (.slice e)) (hg:P.info? e=some g)
 (hx:Ev X st x (.val va)) (hl:ae6 X st lo vl) (hh:ae6 X st hi vh) (hm:ae6 X st mx vm)
 (h:aaJ st.hp g.size va vl vh vm=some v):n9 P X o st (.val v) st.loc st.hp .P:=by
 refine J1 fun ι ρ a w hr=>?_
 have h1:=hx.A1 hr (by simp [ho,Op.operands])
 have h2:=ac8 hr (by intro y hy; simp [ho,Op.operands,hy]) hl
 have h3:=ac8 hr (by intro y hy; simp [ho,Op.operands,hy]) hh
 have h4:=ac8 hr (by intro y hy; simp [ho,Op.operands,hy]) hm
 unfold aaJ at h
 split at h
 ·rename_i aa n c
  generalize hq:a.eval x=q at *
  obtain ⟨q',c',rfl,hnc⟩:∃ q' c',q = .slice q' n c'/\n<=c':=by
   cases h1 with
   | abA=>exact ⟨_,_,rfl,Nat.le_refl _⟩
   | slc _ _ hnc=>exact ⟨_,_,rfl,hnc⟩
   | slz=>exact ⟨_,_,rfl,Nat.zero_le _⟩
  cases e1:bnd vl 0 with
  | none=>rw [e1] at h; cases h
  | some l =>
  cases e2:bnd vh n with
  | none=>rw [e1,e2] at h; cases h
  | some k =>
  simp only [e1,e2,Option.bind_some] at h
  cases vm with
  | none =>
    have hmx:mx.map a.eval=none:=by cases hmm:mx.map a.eval with | none=>rfl | some _=>rw [hmm] at h4; exact h4.elim
    simp only at h
    split at h
    ·rename_i hb
     cases h
     obtain ⟨hb0,hb1,hb2,hb3⟩:=hb
     have hk:0<=k:=by omega
     have hlk:l<=(k.toNat:Int):=by omega
     have hkc:k<=(c':Int):=by omega
     refine ⟨.slice (if c'=l.toNat then q' else q'.map (·.add (l.toNat*g.size))) (k.toNat-l.toNat) (c'-l.toNat),?_,?_⟩
     ·simp only [execOp,ho,Instr.sliceAt,Instr.slice,Sem.run_bind,run_underlying hd,Result.andThen_ok,hq,hmx]
      rcases acH e1 h2 with ⟨r1,_,q1⟩ | ⟨k1,r1,_⟩<;>rcases acH e2 h3 with ⟨r2,_,q2⟩ | ⟨k2,r2,_⟩<;>rw [r1,r2] <;>
       simp [Instr.sliceBounds,P4 (P:=P) _ ⟨_,rfl⟩ hk hkc,P4 (P:=P) _ ⟨_,rfl⟩ hb1 hlk,sizeOf,typeInfo,hg, *]
      all_goals (try (rw [P4 (P:=P) _ ⟨_,rfl⟩ (by omega) (by omega)]; simp [sizeOf,typeInfo,hg]))
     ·have hkl:(k-l).toNat=k.toNat-l.toNat:=by omega
      rw [hkl]
      by_cases hfl:k=n/\c=n
      ·have hc':c'=n:=by cases h1 with | abA=>rfl | slc _ _ _ hcf=>exact hcf hfl.2 | slz _ _ _ _ hcc=>exact hcc hfl.2
       exact aiO _ h1 hr.2.1 hb0 (by omega) (by omega) (by omega) (Nat.le_refl _) (fun _=>by omega) (fun _=>hfl)
      ·exact aiO _ h1 hr.2.1 hb0 (by omega) (by omega) (by omega) (Nat.le_refl _) (fun h=>absurd h hfl) (fun hn=>by subst hn; cases h1; exact ⟨by omega,rfl⟩)
    ·cases h
  | some vm =>
    obtain ⟨m',hm',hvm⟩:∃ m',mx.map a.eval=some m'/\VR ι vm m':=by cases hmm:mx.map a.eval with | none=>rw [hmm] at h4; exact h4.elim | some m'=>rw [hmm] at h4; exact ⟨m',rfl,h4⟩
    simp only at h
    cases e3:bnd (some vm) 0 with
    | none=>rw [e3] at h; cases h
    | some m =>
    simp only [e3,Option.bind_some] at h
    split at h
    ·rename_i hb
     cases h
     obtain ⟨hb0,hbs,hb1,hb2,hb3,hb4⟩:=hb
     obtain ⟨k3,rfl⟩:∃ k3,vm = .int k3 m:=by
      unfold bnd at e3; split at e3
      ·rename_i heq; cases heq
      ·rename_i heq; cases heq; cases e3; exact ⟨_,rfl⟩
      ·cases e3
     cases hvm
     obtain ⟨vh',rfl⟩:=Option.isSome_iff_exists.1 hbs
     obtain ⟨k2,r2⟩:∃ k2,hi.map a.eval=some (.int k2 k):=by
      rcases acH e2 h3 with ⟨_,r,_⟩ | ⟨k2,r2,_⟩
      ·cases r
      ·exact ⟨k2,r2⟩
     have hk:0<=k:=by omega
     have hlk:l<=(k.toNat:Int):=by omega
     have hm0:0<=m:=by omega
     have hmc:m<=(c':Int):=by omega
     have hkm:k<=(m.toNat:Int):=by omega
     refine ⟨.slice (if m.toNat=l.toNat then q' else q'.map (·.add (l.toNat*g.size))) (k.toNat-l.toNat) (m.toNat-l.toNat),?_,?_⟩
     ·simp only [execOp,ho,Instr.sliceAt,Instr.slice,Sem.run_bind,run_underlying hd,Result.andThen_ok,hq,hm',r2]
      rcases acH e1 h2 with ⟨r1,_,q1⟩ | ⟨k1,r1,_⟩<;>rw [r1] <;>
       simp [Instr.sliceBounds,P4 (P:=P) _ ⟨_,rfl⟩ hm0 hmc,P4 (P:=P) _ ⟨_,rfl⟩ hk hkm,P4 (P:=P) _ ⟨_,rfl⟩ hb1 hlk,sizeOf,typeInfo,hg, *]
     ·have hkl:(k-l).toNat=k.toNat-l.toNat:=by omega
      rw [hkl]
      by_cases hfl:k=m
      ·exact aiO _ h1 hr.2.1 hb0 (by omega) (by omega) (by omega) (by omega) (fun _=>by omega) (fun _=>hfl)
      ·exact aiO _ h1 hr.2.1 hb0 (by omega) (by omega) (by omega) (by omega) (fun h=>absurd h hfl) (fun hn=>by subst hn; cases h1; omega)
    ·cases h
 ·cases h
end
end Go.AM

/- Structs and slices laid out of their parts; new blocks. -/
namespace Go.AM
set_option linter.unusedSimpArgs false
set_option linter.unusedVariables false
theorem ahX:∀ (n i:Nat) (cs:List Value),(aaz i n cs).length=n
 | 0,_,_=>rfl
 | n+1,i,cs=>by simp [aaz,ahX n]
theorem aij:∀ (n i:Nat) (cs:List Value) (j:Nat),j<n->(aaz i n cs)[j]? = some (cs.getD (i+j) undef)
 | 0,_,_,_,h=>by omega
 | n+1,i,cs,0,_=>by simp [aaz]
 | n+1,i,cs,j+1,h=>by
   simp only [aaz,List.getElem?_cons_succ]
   rw [aij n (i+1) cs j (by omega),show i+1+j=i+(j+1) by omega]
theorem atm (cs:List Value):aaz 0 cs.length cs=cs:=by
 apply List.ext_getElem?
 intro j
 by_cases h:j<cs.length
 ·rw [aij _ _ _ _ h]; simp [h]
 ·rw [List.getElem?_eq_none (by rw [ahX]; omega),List.getElem?_eq_none (by omega)]
def S3 (agg:Bool) (n:Nat) (v:Value) (cs:List Value):Prop :=
 (agg=true/\∃ a:Array Value,v = .agg a/\a.size=n/\cs=a.toList)\/(agg=false/\v.oneCell'=true/\cs=[v])
theorem agz {R:Type} {agg:Bool} {n:Nat} {v:Value} {K:List Value->Option R} {r:R} (h:N0 agg n v K=some r):∃ cs,S3 agg n v cs/\K cs=some r:=by
 cases agg with
 | true =>
   simp only [N0,afR] at h
   split at h
   ·rename_i a
    split at h
    ·rename_i hz
     simp only [Option.bind_some] at h
     have:aaz 0 n a.toList=a.toList:=by rw [<-hz,<-Array.length_toList]; exact atm _
     rw [this] at h
     exact ⟨_,.inl ⟨rfl,a,rfl,hz,rfl⟩,h⟩
    ·cases h
   ·cases h
 | false =>
   simp only [N0] at h
   cases e:aos v with
   | none=>rw [e] at h; cases h
   | some u =>
     rw [e] at h
     have hu:u=v/\v.oneCell'=true:=by
      unfold aos at e
      split at e<;>first | (cases e; done) | skip
      cases e
      rename_i h1 h2
      refine ⟨rfl,?_⟩
      cases v<;>first | rfl | (exact absurd rfl (h1 _)) | (exact absurd rfl (h2 _))
     obtain ⟨rfl,h1⟩:=hu
     exact ⟨[u],.inr ⟨rfl,h1,rfl⟩,h⟩
theorem S3.len {agg:Bool} {n:Nat} {v:Value} {cs:List Value} (h:S3 agg n v cs) (h1:agg=false->n=1):cs.length=n:=by
 rcases h with ⟨_,a,rfl,hz,rfl⟩ | ⟨e,_,rfl⟩
 ·simpa using hz
 ·simp [h1 e]
theorem S3.rel {agg:Bool} {n:Nat} {v v':Value} {cs:List Value} {ι:j8} (h:S3 agg n v cs) (hr:VR ι v v'):A0 ι cs v'.cells.toList/\∀ u ∈ cs,u.oneCell'=true:=by
 rcases h with ⟨_,a,rfl,hz,rfl⟩ | ⟨_,h1,rfl⟩
 ·cases hr with
  | @agg _ cs' hz' hc h1 =>
    refine ⟨A0.abT (by simpa [Value.cells] using hz') fun i v v' e e'=>hc i v v' (by simpa using e) (by simpa [Value.cells] using e'),fun u hu=>?_⟩
    obtain ⟨i,hi⟩:=List.getElem?_of_mem hu
    exact h1 i u (by simpa using hi)
 ·have h1':=hr.one h1
  have hc:v'.cells = #[v']:=by cases v'<;>first | rfl | simp [Value.oneCell'] at h1'
  rw [hc]
  exact ⟨.cons hr .nil,fun u hu=>by simp at hu; subst hu; exact h1⟩
inductive acE (X:Ctx) (st:St) (place:Nat->Option (Nat × Nat × Bool)):List (Nat × Operand)->List Value->List Value->Prop
 | nil {cells:List Value}:acE X st place [] cells cells
 | cons {i:Nat} {x:Operand} {rest:List (Nat × Operand)} {cells cs cells':List Value} {off n:Nat} {agg:Bool} {v:Value}:place i=some (off,n,agg)->off+n<=cells.length->Ev X st x (.val v) →
  S3 agg n v cs->acE X st place rest (D1 cells off cs) cells'->acE X st place ((i,x)::rest) cells cells'
theorem adq {R:Type} {X:Ctx} {st:St} {place:Nat->Option (Nat × Nat × Bool)} {r:R}:∀ {ps:List (Nat × Operand)} {cells:List Value} {K:List Value->Option R},U5 X st place ps cells K=some r->∃ cells',acE X st place ps cells cells'/\K cells'=some r
 | [],cells,K,h=>⟨cells,.nil,h⟩
 | (i,x)::rest,cells,K,h=>by
   simp only [U5] at h
   cases e:place i with
   | none=>rw [e] at h; cases h
   | some p =>
     obtain ⟨off,n,agg⟩:=p
     rw [e] at h
     simp only at h
     cases hb:Nat.ble (off+n) cells.length with
     | false=>rw [hb] at h; cases h
     | true =>
       rw [hb] at h
       obtain ⟨v,hv,h⟩:=y6 h
       obtain ⟨cs,hcs,h⟩:=agz h
       obtain ⟨cells',hp,h⟩:=adq h
       exact ⟨cells',.cons e (Nat.le_of_ble_eq_true hb) hv hcs hp,h⟩
theorem aa3 {l:List Value} {o:Nat} {cs:List Value} (h:o+cs.length<=l.length):(D1 l o cs).length=l.length:=by
 simp [D1]; omega
theorem aff {l:List Value} {o:Nat} {cs:List Value} (h:o+cs.length<=l.length) (i:Nat):(D1 l o cs)[i]? = if o<=i/\i<o+cs.length then cs[i-o]? else l[i]?:=by
 unfold D1
 by_cases h1:i<o
 ·rw [List.append_assoc,List.getElem?_append_left (by simp; omega),List.getElem?_take_of_lt h1,if_neg (by omega)]
 ·by_cases h2:i<o+cs.length
  ·rw [List.append_assoc,List.getElem?_append_right (by simp; omega),List.getElem?_append_left (by simp; omega),if_pos ⟨by omega,h2⟩]
   congr 1; simp; omega
  ·rw [List.getElem?_append_right (by simp; omega),List.getElem?_drop,if_neg (by omega)]
   congr 1; simp; omega
def seg (cs:Array Value) (off:Nat) (l:List Value):Array Value:=(l.zipIdx).foldl (fun cs (c,j)=>cs.setIfInBounds (off+j) c) cs
theorem amK (off:Nat):∀ (l:List Value) (k:Nat) (cs:Array Value),off+k+l.length<=cs.size →
 ((l.zipIdx k).foldl (fun cs (c,j)=>cs.setIfInBounds (off+j) c) cs).size=cs.size ∧
 ∀ i:Nat,((l.zipIdx k).foldl (fun cs (c,j)=>cs.setIfInBounds (off+j) c) cs)[i]? = if off+k<=i/\i<off+k+l.length then l[i-(off+k)]? else cs[i]?
 | [],k,cs,_=>⟨rfl,fun i=>by simp; omega⟩
 | v::l,k,cs,h=>by
   have ih:=amK off l (k+1) (cs.setIfInBounds (off+k) v) (by simp at h ⊢; omega)
   simp only [List.zipIdx_cons,List.foldl_cons]
   refine ⟨by rw [ih.1]; simp,fun i=>?_⟩
   rw [ih.2 i]
   simp only [List.length_cons] at h ⊢
   by_cases h1:i=off+k
   ·subst h1
    rw [if_neg (by omega),if_pos (by omega)]
    simp [Array.getElem?_setIfInBounds]
    omega
   ·by_cases h2:off+(k+1)<=i/\i<off+(k+1)+l.length
    ·rw [if_pos h2,if_pos (by omega),show i-(off+k)=(i-(off+(k+1)))+1 by omega]
     simp
    ·rw [if_neg h2,if_neg (by omega)]
     simp [Array.getElem?_setIfInBounds]
     intro hh; exact absurd hh.symm h1
theorem ahY {X:Ctx} {ι:j8} {ρ:Nat->Nat} {st:St} {a:Act} {o:Oper} {place:Nat->Option (Nat × Nat × Bool)} {place':Nat->Option (Nat × Nat)} (hr:N7 X ι ρ st a o)
 (hpl:∀ i off n agg,place i=some (off,n,agg)->place' i=some (off,n)/\(agg=false->n=1)) {ps:List (Nat × Operand)} {cells cells':List Value} (h:acE X st place ps cells cells') :
 (∀ p ∈ ps,p.2 ∈ o.op.operands)->∀ cs:Array Value,A0 ι cells cs.toList->(∀ u ∈ cells,u.oneCell'=true) →
 ∃ cs',Instr.fill place' cs (ps.map fun p=>(p.1,a.eval p.2))=some cs'/\A0 ι cells' cs'.toList/\(∀ u ∈ cells',u.oneCell'=true):=by
 induction h with
 | nil=>intro _ cs h h1; exact ⟨cs,rfl,h,h1⟩
 | @cons i x rest cells cs cells' off n agg v hp hle hx hc _ ih =>
   intro hm A hA h1
   obtain ⟨hp',hn⟩:=hpl i off n agg hp
   have hxv:=hx.A1 hr (hm (i,x) (by simp))
   obtain ⟨hcs,hone⟩:=hc.rel hxv
   have hlen:=hc.len hn
   have hlen':(a.eval x).cells.size=n:=by have:=hcs.length; simp at this; omega
   have hAl:cells.length=A.size:=by simpa using hA.length
   have hg:=amK off (a.eval x).cells.toList 0 A (by simp; omega)
   have hseg:A0 ι (D1 cells off cs) (seg A off (a.eval x).cells.toList).toList:=by
    refine A0.abT ?_ fun j u u' e e'=>?_
    ·rw [aa3 (by omega)]; simp only [seg,Array.length_toList]; rw [hg.1]; exact hAl
    ·rw [aff (by omega)] at e
     have e2:(seg A off (a.eval x).cells.toList)[j]? = some u':=by simpa using e'
     simp only [seg] at e2
     rw [hg.2 j] at e2
     simp only [Nat.add_zero,Array.length_toList] at e2
     by_cases hj:off<=j/\j<off+cs.length
     ·rw [if_pos hj] at e
      rw [if_pos (by omega)] at e2
      obtain ⟨q,hq,hv⟩:=hcs.get e
      rw [hq] at e2; cases e2; exact hv
     ·rw [if_neg hj] at e
      rw [if_neg (by omega)] at e2
      obtain ⟨q,hq,hv⟩:=hA.get e
      have:A[j]? = some q:=by simpa using hq
      rw [this] at e2; cases e2; exact hv
   obtain ⟨cs',hf,hv,h1'⟩:=ih (fun p hp=>hm p (by simp [hp])) (seg A off (a.eval x).cells.toList) hseg (fun u hu=>by
    obtain ⟨j,hj⟩:=List.getElem?_of_mem hu
    rw [aff (by omega)] at hj
    split at hj
    ·exact hone u (List.mem_of_getElem? hj)
    ·exact h1 u (List.mem_of_getElem? hj))
   refine ⟨cs',?_,hv,h1'⟩
   simp only [List.map_cons,Instr.fill,hp']
   rw [if_neg (by simp; omega)]
   rw [<-hf]
   congr 1
   simp only [seg]
   rw [<-Array.foldl_toList]
   simp
theorem acS {ι:j8} {z:List Value} (h:∀ u ∈ z,E4 u=true):A0 ι z z:=by
 induction z with
 | nil=>exact .nil
 | cons v z ih=>exact .cons (adA (h v (by simp))) (ih fun u hu=>h u (by simp [hu]))
section
variable {P:Program} {X:Ctx} {o:Oper} {st:St}
theorem aoX {t:TypeId} {parts:Array (Nat × Operand)} {ti:TI} {fs:List (Nat × Nat × Bool)} {cells':List Value} (ho:o.op = .build t parts) (ht:K8 P t ti) (hk:ti.k = .struct fs)
 (hp:acE X st (fun i=>fs[i]?) parts.toList ti.zero cells'):n9 P X o st (.val (.agg cells'.toArray)) st.loc st.hp .P:=by
 refine J1 fun ι ρ a w hr=>?_
 obtain ⟨i,v,hi,hsz,hz,hzc,hzl,hzp⟩:=ht.info
 obtain ⟨d,hd,hag,hkk⟩:=ht.und
 rw [hk] at hkk
 obtain ⟨fields,rfl,hfn,hf⟩:=hkk
 have hplaces:fields.toList.mapM (fun f=>(P.info? f.type).map fun i=>(f.offset,i.size))=some (fs.map fun p=>(p.1,p.2.1)):=by
  have:∀ (l:List Field) (k:Nat),(∀ j,l[j]? = fields[k+j]?)->l.mapM (fun f=>(P.info? f.type).map fun i=>(f.offset,i.size))=some ((fs.drop k).map fun p=>(p.1,p.2.1)):=by
   intro l
   induction l with
   | nil =>
     intro k hl
     have:fields[k]? = none:=by have:=hl 0; simpa using this.symm
     have hk':fields.size<=k:=by simpa using this
     rw [List.drop_eq_nil_of_le (by omega)]; simp
   | cons f l ih =>
     intro k hl
     have h0:fields[k]? = some f:=by have:=hl 0; simpa using this.symm
     have hkl:k<fs.length:=by have:=(Array.getElem?_eq_some_iff.1 h0).1; omega
     obtain ⟨f',g,u,e1,e2,e3,e4,e5,e6,e7⟩:=hf k fs[k].1 fs[k].2.1 fs[k].2.2 (by rw [List.getElem?_eq_getElem hkl])
     rw [h0] at e1; cases e1
     have ih':=ih (k+1) (fun j=>by have h1:=hl (j+1); rw [List.getElem?_cons_succ] at h1; rw [h1]; congr 1; omega)
     rw [List.mapM_cons,e3,ih',List.drop_eq_getElem_cons hkl,List.map_cons]
     simp only [Option.map_some,Option.bind_eq_bind,Option.bind_some,Option.pure_def,e2,e4]
  simpa using this fields.toList 0 (by simp)
 have hzr:A0 ι ti.zero v.cells.toList:=by rw [hzc]; exact acS hzp
 obtain ⟨cs',hfill,hv,h1⟩:=ahY hr (place':=fun i=>(fs.map fun p=>(p.1,p.2.1)).toArray[i]?) (fun j off n agg e=>by
  obtain ⟨f',g,u,e1,e2,e3,e4,e5,e6,e7,e8⟩:=hf j off n agg e
  exact ⟨by simp [e],e8⟩) hp (fun p hp=>by simp [ho,Op.operands]; exact ⟨p.1,by simpa using hp⟩) v.cells hzr (fun u hu=>T2 (hzp u hu))
 have hb:P.built t (parts.map fun (i,x)=>(i,a.eval x)).toList=some cs':=by
  simp only [Program.built,hi,hd,hz,hplaces]
  rw [<-hfill]
  congr 1
  simp
 refine ⟨.agg cs',by simp [execOp,ho,run_build w t _ cs' hb],?_⟩
 refine .agg (by simpa using hv.length) (fun j u u' e e'=>?_) (fun j u e=>h1 u (List.mem_of_getElem? (by simpa using e)))
 obtain ⟨q,hq,hr'⟩:=hv.get (i:=j) (v:=u) (by simpa using e)
 have:cs'[j]? = some q:=by simpa using hq
 rw [this] at e'; cases e'; exact hr'
end
end Go.AM

/- Loads, stores, new variables. -/
namespace Go.AM
set_option linter.unusedSimpArgs false
set_option linter.unusedVariables false
section
variable {P:Program} {X:Ctx} {o:Oper} {st:St}
theorem afg {t:TypeId} {d:TypeDesc} {agg:Bool} (hd:P.underlying t=some d) (hag:V9 d=agg) (w:World):(isAgg t).run P w = .ok agg w:=by
 subst hag
 cases d<;>simp [isAgg,run_underlying hd,V9]
theorem add_plain (b o j:Nat):(⟨b,o,none⟩:Addr).add j=⟨b,o+j,none⟩:=by unfold Addr.add; split<;>simp_all
def U2 (agg:Bool) (n:Nat) (cells:List Value) (off:Nat):Option Value :=
 match agg with | true=>(cut cells off n).map fun c=>Value.agg c.toArray | false=>cells[off]?
theorem aas {ι:j8} {t:TypeId} {ti:TI} (ht:K8 P t ti) {cells:List Value} {cs:Array Value} {off off' b:Nat} {el:TypeId} {fr:Nat × Nat} {w:World} (hb:w.heap[b]? = some (.cells cs el fr))
 (hc:F5 ι cells cs off) {v:Value} (h:U2 ti.agg ti.size cells off'=some v) :
 ∃ v',(loadVar t ⟨b,off+off',none⟩).run P w = .ok v' w/\VR ι v v':=by
 obtain ⟨i,z,hi,hsz,_⟩:=ht.info
 obtain ⟨d,hd,hag,_⟩:=ht.und
 have hia:=afg hd hag w
 have cell:∀ j,w.cell? ((⟨b,off+off',none⟩:Addr).add j)=cs[off+off'+j]?:=by
  intro j
  rw [add_plain]
  simp [World.cell?,hb]
 cases hg:ti.agg with
 | false =>
   rw [hg] at h hia
   simp only [U2] at h
   obtain ⟨_,v',e,hv⟩:=hc _ _ h
   have:=cell 0
   rw [add_plain,Nat.add_zero] at this
   refine ⟨v',?_,hv⟩
   simp only [loadVar,Sem.run_bind,hia,Result.andThen_ok]
   simp [this,e]
 | true =>
   rw [hg] at h hia
   simp only [U2] at h
   cases hcut:cut cells off' ti.size with
   | none=>rw [hcut] at h; cases h
   | some c =>
     rw [hcut] at h; cases h
     unfold cut at hcut
     split at hcut
     ·rename_i hle
      cases hcut
      have hcl:((cells.drop off').take ti.size).length=ti.size:=by simp; omega
      have hget:∀ j v,((cells.drop off').take ti.size)[j]? = some v->v.oneCell'=true/\∃ v',cs[off+off'+j]? = some v'/\VR ι v v':=by
       intro j v e
       have hj:j<ti.size:=by rw [<-hcl]; exact (List.getElem?_eq_some_iff.1 e).1
       rw [List.getElem?_take_of_lt hj,List.getElem?_drop] at e
       obtain ⟨h1,v',e',hv⟩:=hc _ _ e
       exact ⟨h1,v',by rw [<-e']; congr 1; omega,hv⟩
      have hrun:(loadCells ⟨b,off+off',none⟩ ti.size).run P w = .ok ((List.range ti.size).map fun j=>cs.getD (off+off'+j) undef).toArray w:=by
       refine run_loadCells w _ _ _ fun j hj=>?_
       rw [cell j]
       obtain ⟨_,v',e',_⟩:=hget j _ (List.getElem?_eq_getElem (by omega))
       simp [e']
      refine ⟨.agg ((List.range ti.size).map fun j=>cs.getD (off+off'+j) undef).toArray,?_,?_⟩
      ·simp [loadVar,hia,sizeOf,typeInfo,hi,hsz,hrun]
      ·refine .agg (by simp; omega) (fun j v v' e e'=>?_) (fun j v e=>(hget j v (by simpa using e)).1)
       obtain ⟨_,q,e2,hv⟩:=hget j v (by simpa using e)
       have hj:j<ti.size:=by have:=(Array.getElem?_eq_some_iff.1 e).1; simp at this; omega
       simp [hj] at e'
       rw [<-e']
       simpa [e2] using hv
     ·cases hcut
theorem agv {t:TypeId} {ti:TI} (ht:K8 P t ti) {v:Value} {b off:Nat} {w:World} {cs:Array Value} {el:TypeId} {fr:Nat × Nat} {pl:Bool} (hb:w.heap[b]? = some (.cells cs el fr)) (hn:aim pl cs.size fr)
 (hz:v.cells.size=ti.size) (hle:off+v.cells.size<=cs.size) (h1:∀ u ∈ v.cells.toList,u.oneCell'=true) :
 (storeVar t ⟨b,off,none⟩ v).run P w = .ok () (w.setCells b off v.cells.toList):=by
 obtain ⟨i,z,hi,hsz,_⟩:=ht.info
 have:=run_storeCells_cells (P:=P) b off v.cells.toList 0 w (fun j hj=>by
  simp only [World.cell?,hb]
  simp at hj
  simp; omega) (fun j hj=>by
  simp only [World.frozen?,hb]
  obtain ⟨lo,hi'⟩:=fr
  simp at hj ⊢
  rcases hn with h | h<;>simp at h<;>omega) h1
 simp only [Nat.add_zero] at this
 simp [storeVar,sizeOf,typeInfo,hi,hsz,hz,this]
theorem Z1:∀ (l:List Value) (o:Nat) (w:World) (b:Nat) (cs:Array Value) (el:TypeId) (fr:Nat × Nat),w.heap[b]? = some (.cells cs el fr)->o+l.length<=cs.size →
 ∃ cs',(w.setCells b o l).heap[b]? = some (.cells cs' el fr)/\cs'.size=cs.size/\(∀ i,cs'[i]? = if o<=i/\i<o+l.length then l[i-o]? else cs[i]?) ∧
   (∀ j,j ≠ b->(w.setCells b o l).heap[j]? = w.heap[j]?)/\(w.setCells b o l).heap.size=w.heap.size/\(w.setCells b o l).os=w.os/\(w.setCells b o l).tape=w.tape/\(w.setCells b o l).output=w.output
 | [],o,w,b,cs,el,fr,hb,_=>⟨cs,hb,rfl,fun i=>by simp; omega,fun _ _=>rfl,rfl,rfl,rfl,rfl⟩
 | v::l,o,w,b,cs,el,fr,hb,hle=>by
   have hlt:b<w.heap.size:=(Array.getElem?_eq_some_iff.1 hb).1
   have hb':(w.setCell ⟨b,o,none⟩ v).heap[b]? = some (.cells (cs.setIfInBounds o v) el fr):=by
    simp [World.setCell,Array.getElem?_modify,hb]
   obtain ⟨cs',h1,h2,h3,h4,h5,h6,h7,h8⟩:=Z1 l (o+1) (w.setCell ⟨b,o,none⟩ v) b (cs.setIfInBounds o v) el fr hb' (by simp at hle ⊢; omega)
   refine ⟨cs',h1,by simpa using h2,fun i=>?_,fun j hj=>?_,?_,h6,h7,h8⟩
   ·rw [h3 i]
    simp only [List.length_cons] at hle ⊢
    by_cases e:i=o
    ·subst e
     rw [if_neg (by omega),if_pos (by omega)]
     simp [Array.getElem?_setIfInBounds]; omega
    ·by_cases e2:o+1<=i/\i<o+1+l.length
     ·rw [if_pos e2,if_pos (by omega),show i-o=(i-(o+1))+1 by omega]; simp
     ·rw [if_neg e2,if_neg (by omega),Array.getElem?_setIfInBounds,if_neg (fun h=>e h.symm)]
   ·rw [World.setCells,h4 j hj]
    simp only [World.setCell,Array.getElem?_modify]
    rw [if_neg (fun h=>hj h.symm)]
   ·rw [World.setCells,h5]; simp [World.setCell]
theorem aiY {ι:j8} {cells new:List Value} {cs cs':Array Value} {base off:Nat} {l:List Value} (h:F5 ι cells cs base) (hle:off+new.length<=cells.length) (hn:A0 ι new l) (h1:∀ u ∈ new,u.oneCell'=true)
 (hc:∀ i,cs'[i]? = if base+off<=i/\i<base+off+l.length then l[i-(base+off)]? else cs[i]?):F5 ι (D1 cells off new) cs' base:=by
 intro i v e
 rw [aff hle] at e
 have hl:=hn.length
 rw [hc]
 by_cases hi:off<=i/\i<off+new.length
 ·rw [if_pos hi] at e
  obtain ⟨q,hq,hv⟩:=hn.get e
  exact ⟨h1 v (List.mem_of_getElem? e),q,by rw [if_pos (by omega),<-hq]; congr 1; omega,hv⟩
 ·rw [if_neg hi] at e
  obtain ⟨a,q,hq,hv⟩:=h i v e
  exact ⟨a,q,by rw [if_neg (by omega)]; exact hq,hv⟩
theorem ai1 {t:TypeId} {x:Operand} {ti:TI} {k off:Nat} {cells:List Value} {v:Value} (ho:o.op = .load t x) (ht:K8 P t ti) (hx:Ev X st x (.loc k off)) (hk:look st.loc k=some cells)
 (h:U2 ti.agg ti.size cells off=some v):n9 P X o st (.val v) st.loc st.hp (.L k):=by
 refine ⟨rfl,rfl,v,cells,rfl,hk,fun ι ρ a w hr hl=>?_⟩
 have h1:=hx.rel hr (by simp [ho,Op.operands])
 obtain ⟨cs,el,fr,hb,hz,hn,hc⟩:=hl
 obtain ⟨v',hv',hr'⟩:=aas ht (off:=0) hb hc h
 generalize hq:a.eval x=q at *
 cases h1
 rw [Nat.zero_add] at hv'
 exact ⟨v',by simp [execOp,ho,Instr.loadAt,Instr.sureAddr,hq,hv'],hr'⟩
theorem aox {t:TypeId} {x:Operand} {ti:TI} {p v:Value} (ho:o.op = .load t x) (ht:K8 P t ti) (hx:Ev X st x (.val p)) (h:Y7 st.hp ti.agg ti.size p=some v) :
 n9 P X o st (.val v) st.loc st.hp .H:=by
 refine ⟨rfl,rfl,v,rfl,fun ι ρ a w B Nx Q hr hR hN=>?_⟩
 have h1:=hx.A1 hr (by simp [ho,Op.operands])
 unfold Y7 at h
 split at h
 ·rename_i b off
  cases e:j7 st.hp b with
  | none=>rw [e] at h; cases h
  | some k =>
    rw [e] at h
    simp only [Option.bind_some] at h
    generalize hq:a.eval x=q at *
    cases h1 with
    | @ptr _ _ y hy =>
      obtain ⟨cs,el,fr,hb,hz,hlen,hc,_⟩:=hR.ok _ _ _ hy e
      obtain ⟨v',hv',hr'⟩:=aas ht (off:=y.off) (off':=off) (v:=v) hb hc (by rw [<-h]; unfold U2; cases ti.agg<;>rfl)
      exact G0 (by simp [execOp,ho,Instr.loadAt,Instr.sureAddr,hq,hv']) (hN v' w hR ⟨rfl,rfl,rfl,Nat.le_refl _,fun _ _ _=>rfl⟩ hr')
 ·cases h
theorem amW {t:TypeId} {x y:Operand} {ti:TI} {k off:Nat} {p7 cs:List Value} {v:Value} (ho:o.op = .store t x y) (ht:K8 P t ti) (hx:Ev X st x (.loc k off)) (hy:Ev X st y (.val v)) (hk:look st.loc k=some p7)
 (hc:S3 ti.agg ti.size v cs) (hle:off+cs.length<=p7.length):n9 P X o st .B4 (U1 st.loc k (D1 p7 off cs)) st.hp (.S k):=by
 refine ⟨rfl,rfl,p7,D1 p7 off cs,hk,rfl,aa3 hle,fun ι ρ a w hr hl=>?_⟩
 have h1:=hx.rel hr (by simp [ho,Op.operands])
 have h2:=hy.A1 hr (by simp [ho,Op.operands])
 obtain ⟨hvs,hone⟩:=hc.rel h2
 have hlen:=hc.len ht.sz
 have hsz:(a.eval y).cells.size=ti.size:=by have:=hvs.length; simp at this; omega
 obtain ⟨A,el,fr,hb,hz,hn,hcr⟩:=hl
 have hone':∀ u ∈ (a.eval y).cells.toList,u.oneCell'=true:=by
  intro u hu
  obtain ⟨i,hi⟩:=List.getElem?_of_mem hu
  have hi2:i<cs.length:=by rw [hvs.length]; exact (List.getElem?_eq_some_iff.1 hi).1
  obtain ⟨q,hq,hv⟩:=hvs.get (List.getElem?_eq_getElem hi2)
  rw [hi] at hq; cases hq
  exact hv.one (hone _ (List.getElem_mem hi2))
 have hrun:=agv (off:=off) ht hb hn hsz (by omega) hone'
 obtain ⟨A',e1,e2,e3,e4,e5,e6,e7,e8⟩:=Z1 (a.eval y).cells.toList off w (ρ k) A el fr hb (by simp; omega)
 generalize hq:a.eval x=q at *
 cases h1
 refine ⟨w.setCells (ρ k) off (a.eval y).cells.toList,by simp [execOp,ho,Instr.storeAt,Instr.sureAddr,hq,hrun],⟨A',el,fr,e1,by rw [e2,hz,aa3 hle],by rw [e2]; exact hn,?_⟩,e6,e7,e8,e5,e4⟩
 exact aiY hcr hle hvs hone (fun i=>by simpa using e3 i)
theorem adb {agg:Bool} {n:Nat} {v:Value} {cs:List Value} (h:S3 agg n v cs):v.cells.toList=cs:=by
 rcases h with ⟨_,a,rfl,_,rfl⟩ | ⟨_,h1,rfl⟩
 ·rfl
 ·cases v<;>first | rfl | simp [Value.oneCell'] at h1
theorem alo {ι:j8} {cells:List Value} {cs:Array Value} {el:TypeId} {w:World} (h:A0 ι cells cs.toList) (h1:∀ u ∈ cells,u.oneCell'=true):W6 ι cells (w.alloc (.cells cs el)) w.heap.size:=by
 refine ⟨cs,el,(0,0),by show (w.heap.push _)[w.heap.size]? = _; simp,by have:=h.length; simp at this; omega,.inl (Nat.le_refl _),fun i v e=>?_⟩
 obtain ⟨q,hq,hv⟩:=h.get e
 exact ⟨h1 v (List.mem_of_getElem? e),q,by simpa using hq,hv⟩
theorem anj {t:TypeId} {ti:TI} {d:Nat} (ho:o.op = .alloc t) (hdst:o.dst=some d) (ht:K8 P t ti) (hk:look st.loc d=none):n9 P X o st (.loc d 0) ((d,ti.zero)::st.loc) st.hp (.N d):=by
 refine ⟨rfl,hdst,rfl,hk,ti.zero,rfl,fun ι ρ a w hr=>?_⟩
 obtain ⟨i,z,hi,hsz,hz,hzc,hzl,hzp⟩:=ht.info
 refine ⟨.cells z.cells t,by simp [execOp,ho,Instr.alloc,zeroValue,typeInfo,hi,hz,newVar,newRow],alo (by rw [hzc]; exact acS hzp) fun u hu=>T2 (hzp u hu)⟩
theorem ap7 {t:TypeId} {x:Operand} {ti:TI} {d:Nat} {v:Value} {cs:List Value} (ho:o.op = .box t x) (hdst:o.dst=some d) (hx:Ev X st x (.val v)) (hc:S3 ti.agg ti.size v cs) (hk:look st.loc d=none) :
 n9 P X o st (.loc d 0) ((d,cs)::st.loc) st.hp (.N d):=by
 refine ⟨rfl,hdst,rfl,hk,cs,rfl,fun ι ρ a w hr=>?_⟩
 have h2:=hx.A1 hr (by simp [ho,Op.operands])
 obtain ⟨hvs,hone⟩:=hc.rel h2
 exact ⟨.cells (a.eval x).cells t,by simp [execOp,ho,Instr.box,newVar,newRow],alo hvs hone⟩
theorem alH {ng:Nat} {ι:j8} {hp:Heap} {w w':World} {B:Nat} (hR:Rel ng ι hp w B) (k:j4) (cs:Array Value) (el:TypeId) (fr:Nat × Nat) (hfr:aim k.pl cs.size fr) (hw:w'.heap=w.heap.push (.cells cs el fr)) (ho:w'.os=w.os) (ht:w'.tape=w.tape) (hu:w'.output=w.output)
 (hlen:k.cells.length<=cs.size) (hc:F5 ι k.cells cs 0):∃ ι',ι'=(fun b=>if b=hp.length then some ⟨w.heap.size,0,cs.size,k.sz⟩ else ι b)/\U3 hp.length ι ι'/\(∀ b x,hp.length<=b->ι' b=some x->w.heap.size<=x.w5) ∧
  Rel ng ι' (hp++[k]) w' B/\Fr ι hp w w':=by
 refine ⟨_,rfl,fun b hb=>by simp; omega,fun b x hb hx=>?_,?_,?_⟩
 ·split at hx
  ·cases hx; exact Nat.le_refl _
  ·exact absurd (hR.B2 _ _ hx) (by omega)
 ·have hsub:Sub ι (fun b=>if b=hp.length then some ⟨w.heap.size,0,cs.size,k.sz⟩ else ι b):=fun b x hb=>by
   simp only
   rw [if_neg (by have:=hR.B2 _ _ hb; omega)]; exact hb
  have hold:∀ j,j<w.heap.size->w'.heap[j]? = w.heap[j]?:=fun j hj=>by rw [hw,Array.getElem?_push,if_neg (by omega)]
  have hblk:∀ b x q,ι b=some x->j7 hp b=some q->x.w5<w.heap.size:=fun b x q hb hq=>by
   obtain ⟨_,_,_,e,_⟩:=hR.ok b x q hb hq
   exact (Array.getElem?_eq_some_iff.1 e).1
  refine ⟨fun g hg=>?_,fun b x q hb hq=>?_,fun b x hb=>?_,by rw [hw]; simp; have:=hR.base; omega,fun b x q hb hq=>?_,fun b x q b' x' q' hb hq hm hb' hq' he=>?_⟩
  ·obtain ⟨x,h1,h2⟩:=hR.D0 g hg
   exact ⟨x,hsub _ _ h1,h2⟩
  ·split at hb
   ·rename_i e; cases hb; subst e; simp at hq; cases hq; rfl
   ·have:=hR.B2 _ _ hb
    rw [List.getElem?_append_left this] at hq
    exact hR.M6 _ _ _ hb hq
  ·split at hb
   ·rename_i e; simp [e]
   ·have:=hR.B2 _ _ hb; simp; omega
  ·split at hb
   ·rename_i e
    cases hb
    have hq':q=k:=by have:=(j5 hq).1; rw [e] at this; simpa using this.symm
    subst hq'
    refine ⟨cs,el,fr,by rw [hw]; simp,by simp,hlen,hc.mono hsub,fun _=>⟨hfr,hR.base⟩⟩
   ·have hd:=hR.B2 _ _ hb
    rw [w9 _ hd] at hq
    obtain ⟨cs',el',fr',e,h1,h2,h3,h4⟩:=hR.ok b x q hb hq
    exact ⟨cs',el',fr',by rw [hold _ (hblk _ _ _ hb hq)]; exact e,h1,h2,h3.mono hsub,h4⟩
  ·split at hb<;>split at hb'
   ·exact .inl (by omega)
   ·cases hb
    have hd':=hR.B2 _ _ hb'
    rw [w9 _ hd'] at hq'
    have:=hblk _ _ _ hb' hq'
    exact absurd he (by simp; omega)
   ·cases hb'
    have hd:=hR.B2 _ _ hb
    rw [w9 _ hd] at hq
    have:=hblk _ _ _ hb hq
    exact absurd he (by simp; omega)
   ·rw [w9 _ (hR.B2 _ _ hb)] at hq
    rw [w9 _ (hR.B2 _ _ hb')] at hq'
    exact hR.sep _ _ _ _ _ _ hb hq hm hb' hq' he
 ·exact ⟨ho,ht,hu,by rw [hw]; simp,fun j hj _=>by rw [hw,Array.getElem?_push,if_neg (by omega)]⟩
end
end Go.AM

/- Operations that lay new blocks, and those that write the heap. -/
namespace Go.AM
set_option linter.unusedSimpArgs false
set_option linter.unusedVariables false
section
variable {P:Program} {X:Ctx} {o:Oper} {st:St}
theorem Y9 {k:j4} {v:Value} (h:∀ ι ρ a w B,N7 X ι ρ st a o->Rel X.ng ι st.hp w B->∃ v' w' cs el fr,(execOp a.eval o).run P w = .ok (.value v') w'/\w'.heap=w.heap.push (.cells cs el fr) ∧
 aim k.pl cs.size fr/\w'.os=w.os/\w'.tape=w.tape/\w'.output=w.output/\k.cells.length<=cs.size/\F5 ι k.cells cs 0/\(∀ ι':j8,ι' st.hp.length=some ⟨w.heap.size,0,cs.size,k.sz⟩->VR ι' v v')) :
 n9 P X o st (.val v) st.loc (st.hp++[k]) .A:=by
 refine ⟨rfl,⟨[k],rfl⟩,v,rfl,fun ι ρ a w B Nx Q hr hR hN=>?_⟩
 obtain ⟨v',w',cs,el,fr,hrun,hw,hfr,h1,h2,h3,hlen,hc,hv⟩:=h ι ρ a w B hr hR
 obtain ⟨ι',hι,e1,e2,e3,e4⟩:=alH hR k cs el fr hfr hw h1 h2 h3 hlen hc
 exact G0 hrun (hN ι' v' w' e1 (fun b x _ h1 h2 _=>e2 b x h1 h2) e3 e4 (hv ι' (by rw [hι]; simp)))
theorem af8 {ι:j8} {cells:List Value} {cs:Array Value} (h:∀ (i:Nat) (v:Value),cells[i]? = some v->∃ v',cs[i]? = some v'/\VR ι v v') (h1:∀ u ∈ cells,u.oneCell'=true):F5 ι cells cs 0 :=
 fun i v e=>⟨h1 v (List.mem_of_getElem? e),by obtain ⟨v',a,b⟩:=h i v e; exact ⟨v',by simpa using a,b⟩⟩
theorem acG {ι:j8} {cells:List Value} {cs:Array Value} (h:A0 ι cells cs.toList) (h1:∀ u ∈ cells,u.oneCell'=true):F5 ι cells cs 0 :=
 af8 (fun i v e=>by obtain ⟨q,hq,hv⟩:=h.get e; exact ⟨q,by simpa using hq,hv⟩) h1
theorem am1 {t:TypeId} {ti:TI} (ho:o.op = .alloc t) (ht:K8 P t ti):n9 P X o st (.val (.pointer (some ⟨st.hp.length,0,none⟩))) st.loc (st.hp++[⟨ti.zero,ti.size,.rw,st.hp.length,true⟩]) .A:=by
 obtain ⟨i,z,hi,hsz,hz,hzc,hzl,hzp⟩:=ht.info
 refine Y9 fun ι ρ a w B hr hR=>⟨.pointer (some ⟨w.heap.size,0,none⟩),w.alloc (.cells z.cells t),z.cells,t,(0,0),by simp [execOp,ho,Instr.alloc,zeroValue,typeInfo,hi,hz,newVar,newRow],rfl,.inl (Nat.le_refl _),rfl,rfl,rfl,?_,?_,?_⟩
 ·show ti.zero.length<=_; rw [<-hzc]; simp
 ·exact acG (by rw [hzc]; exact acS hzp) fun u hu=>T2 (hzp u hu)
 ·intro ι' e; exact .ptr (x:=⟨w.heap.size,0,z.cells.size,ti.size⟩) e
theorem aqk {t:TypeId} {x:Operand} {ti:TI} {v:Value} {cs:List Value} (ho:o.op = .box t x) (hx:Ev X st x (.val v)) (hc:S3 ti.agg ti.size v cs) :
 n9 P X o st (.val (.pointer (some ⟨st.hp.length,0,none⟩))) st.loc (st.hp++[⟨cs,ti.size,.rw,st.hp.length,true⟩]) .A:=by
 refine Y9 fun ι ρ a w B hr hR=>?_
 obtain ⟨hvs,hone⟩:=hc.rel (hx.A1 hr (by simp [ho,Op.operands]))
 refine ⟨.pointer (some ⟨w.heap.size,0,none⟩),w.alloc (.cells (a.eval x).cells t),(a.eval x).cells,t,(0,0),by simp [execOp,ho,Instr.box,newVar,newRow],rfl,.inl (Nat.le_refl _),rfl,rfl,rfl,?_,acG hvs hone,?_⟩
 ·have:=hvs.length; simp at this; simp; omega
 ·intro ι' e; exact .ptr (x:=⟨w.heap.size,0,(a.eval x).cells.size,ti.size⟩) e
theorem acY {ι':j8} {hp:Heap} {w:World} {n c c' room sz:Nat} (e:ι' hp.length=some ⟨w.heap.size,0,room,sz⟩) (h1:n<=c') (h2:c=n->c'=n) (h3:c'*sz<=room) :
 VR ι' (K3 hp n c) (.slice (some ⟨w.heap.size,0,none⟩) n c'):=by
 unfold K3
 by_cases h0:n=0
 ·subst h0; exact .slz _ _ _ _ h2
 ·exact .slc (x:=⟨w.heap.size,0,room,sz⟩) e (by omega) h1 h2 (by simpa using h3)
theorem acM (z:List Value):∀ n,(rep n z).length=n*z.length
 | 0=>by simp [rep]
 | n+1=>by simp [rep,acM z n,Nat.add_mul]; omega
theorem aod (z:List Value):∀ n i,i<n*z.length->(rep n z)[i]? = z[i % z.length]?
 | 0,i,h=>by simp at h
 | n+1,i,h=>by
   simp only [rep]
   by_cases hi:i<z.length
   ·rw [List.getElem?_append_left hi,Nat.mod_eq_of_lt hi]
   ·rw [List.getElem?_append_right (by omega),aod z n (i-z.length) (by rw [Nat.succ_mul] at h; omega)]
    congr 1
    exact (Nat.mod_eq_sub_mod (a:=i) (b:=z.length) (by omega)).symm
theorem ajK {z:List Value} {u:Value}:∀ {n},u ∈ rep n z->u ∈ z
 | 0,h=>by simp [rep] at h
 | n+1,h=>by simp only [rep,List.mem_append] at h; exact h.elim id ajK
theorem aqj {z:Array Value} {n i:Nat} (h:i<n*z.size):((Array.range (n*z.size)).map (z[· % z.size]!))[i]? = z[i % z.size]?:=by
 have hz:0<z.size:=by rcases Nat.eq_zero_or_pos z.size with h0 | h0; · rw [h0] at h; omega
                      ·exact h0
 have:i % z.size<z.size:=Nat.mod_lt _ hz
 simp [h,this]
theorem aks {ι:j8} {z:Array Value} {zl:List Value} (hz:z.toList=zl) (hp:∀ u ∈ zl,E4 u=true) (n:Nat):A0 ι (rep n zl) ((Array.range (n*z.size)).map (z[· % z.size]!)).toList:=by
 have hzl:zl.length=z.size:=by rw [<-hz]; simp
 refine A0.abT (by rw [acM,hzl]; simp) fun i v v' e e'=>?_
 have hi:i<n*z.size:=by rw [<-hzl,<-acM zl n]; exact (List.getElem?_eq_some_iff.1 e).1
 rw [aod zl n i (by rw [hzl]; exact hi),hzl] at e
 have e2:((Array.range (n*z.size)).map (z[· % z.size]!))[i]? = some v':=by rw [<-e',Array.getElem?_toList]
 rw [aqj hi] at e2
 have:z[i % z.size]? = zl[i % z.size]?:=by rw [<-hz]; simp
 rw [this,e] at e2
 cases e2
 exact adA (hp v (List.mem_of_getElem? e))
theorem ajl {t e:TypeId} {len b8 eb:Nat} {z cells':List Value} {parts:Array (Nat × Operand)} {ti te:TI} (ho:o.op = .buildSlice t len parts) (ht:K8 P t ti) (hk:ti.k = .slice e b8 eb z) (hte:K8 P e te)
 (hb:len*b8<=16777216) (hp:acE X st (fun i=>some (i*b8,b8,te.agg)) parts.toList (rep len z) cells') :
 n9 P X o st (.val (K3 st.hp len len)) st.loc (st.hp++[⟨cells',b8,.rw,st.hp.length,true⟩]) .A:=by
 obtain ⟨d,hd,_,hkk⟩:=ht.und
 rw [hk] at hkk
 obtain ⟨rfl,i,v,hi,hsz,hby,hz,hzc,hzl,h0,hb0,hzp⟩:=hkk
 refine Y9 fun ι ρ a w B hr hR=>?_
 have hvs:v.cells.size=b8:=by rw [<-hzl,<-hzc]; simp
 have h1:∀ u ∈ rep len z,u.oneCell'=true:=fun u hu=>T2 (hzp u (ajK hu))
 have hagg:te.agg=false->b8=1:=fun h=>by
  obtain ⟨i',_,hi',hs',_⟩:=hte.info
  rw [hi] at hi'; cases hi'
  rw [<-hsz,hs',hte.sz h]
 obtain ⟨cs',hfill,hv,h1'⟩:=ahY hr (place':=fun i=>some (i*b8,b8)) (fun j off n agg e=>by simp at e; obtain ⟨rfl,rfl,rfl⟩:=e; exact ⟨rfl,hagg⟩) hp
  (fun p hp=>by simp [ho,Op.operands]; exact ⟨p.1,by simpa using hp⟩) ((Array.range (len*v.cells.size)).map (v.cells[· % v.cells.size]!)) (aks hzc hzp len) h1
 rw [hvs] at hfill
 have hcl:cells'.length=cs'.size:=by simpa using hv.length
 have hcl':cells'.length=len*b8:=by
  have:∀ {ps:List (Nat × Operand)} {c c':List Value},acE X st (fun i=>some (i*b8,b8,te.agg)) ps c c'->c'.length=c.length:=by
   intro ps c c' h
   induction h with
   | nil=>rfl
   | @cons i x rest cells cs cells' off n agg v hp hle hx hc _ ih =>
     simp at hp; obtain ⟨rfl,rfl,rfl⟩:=hp
     have:=hc.len hagg
     rw [ih,aa3 (by omega)]
  rw [this hp,acM,hzl]
 refine ⟨.slice (some ⟨w.heap.size,0,none⟩) len len,w.alloc (.cells cs' e),cs',e,(0,0),?_,rfl,.inl (Nat.le_refl _),rfl,rfl,rfl,by simp; omega,acG hv h1',fun ι' e=>acY e (Nat.le_refl _) (fun h=>h.symm ▸ rfl) (by show len*b8<=cs'.size; omega)⟩
 have hps:(parts.map fun (i,x)=>(i,a.eval x)).toList=parts.toList.map fun p=>(p.1,a.eval p.2):=by simp
 by_cases hz0:len*b8=0
 ·have hl0:len=0:=by rcases Nat.mul_eq_zero.1 hz0 with h | h; · exact h
                     ·omega
  subst hl0
  have hpl:parts.toList=[]:=by
   generalize parts.toList=pl at hp
   cases hp with
   | nil=>rfl
   | cons e hle=>simp at e; obtain ⟨rfl,rfl,rfl⟩:=e; rw [acM] at hle; omega
  have hpa:parts = #[]:=by apply Array.ext'; simpa using hpl
  subst hpa
  simp [Instr.fill] at hfill
  subst hfill
  simp [execOp,ho,Instr.buildSlice,run_underlying hd,sizeOf,typeInfo,hi,hsz,Instr.fill,newRow,Array.range_zero']
 ·simp only [execOp,ho,Instr.buildSlice,Sem.run_bind,run_underlying hd,Result.andThen_ok]
  simp [sizeOf,typeInfo,hi,hsz,hz0,zeroValue,hz,hvs,show ¬ (16777216<len*b8) by omega,hfill,newRow]
theorem aj8 {t e:TypeId} {l c:Operand} {vl vc:Value} {b8 eb:Nat} {z:List Value} {ti:TI} {n:Nat × Nat} (ho:o.op = .makeSlice t l c) (ht:K8 P t ti) (hk:ti.k = .slice e b8 eb z)
 (hl:Ev X st l (.val vl)) (hc:Ev X st c (.val vc)) (h:ak7 eb vl vc=some n) :
 n9 P X o st (.val (K3 st.hp n.1 (aaw (n.1=n.2) n.1))) st.loc (st.hp++[⟨rep n.2 z,b8,.rw,st.hp.length,true⟩]) .A:=by
 obtain ⟨d,hd,_,hkk⟩:=ht.und
 rw [hk] at hkk
 obtain ⟨rfl,i,v,hi,hsz,hby,hz,hzc,hzl,h0,hb0,hzp⟩:=hkk
 refine Y9 fun ι ρ a w B hr hR=>?_
 have h1:=hl.A1 hr (by simp [ho,Op.operands])
 have h2:=hc.A1 hr (by simp [ho,Op.operands])
 unfold ak7 at h
 split at h
 ·rename_i li ci
  split at h
  ·rename_i hh
   cases h
   obtain ⟨hh0,hh1,hh2,hh3⟩:=hh
   generalize hql:a.eval l=ql at *
   generalize hqc:a.eval c=qc at *
   cases h1; cases h2
   have hb':(i.bytes:Int)*ci<=281474976710656:=by
    rw [hby]
    have:(eb:Int)*ci=((ci.toNat*eb:Nat):Int):=by
     rw [Int.natCast_mul,Int.toNat_of_nonneg (by omega),Int.mul_comm]
    omega
   have hrun:=run_make (P:=P) w t e i v hd hi hz .i64 .i64 li ci hh0 hh1 hb' hh3
   have hvs:v.cells.size=b8:=by rw [<-hzl,<-hzc]; simp
   have hmc:madeCells v.cells (ci.toNat*i.size)=(Array.range (ci.toNat*v.cells.size)).map (v.cells[· % v.cells.size]!):=by rw [hsz,<-hvs]; rfl
   have hzr:=aks (ι:=ι) hzc hzp ci.toNat
   rw [<-hmc] at hzr
   have hsz2:(madeCells v.cells (ci.toNat*i.size)).size=ci.toNat*b8:=by rw [size_madeCells,hsz]
   refine ⟨.slice (some ⟨w.heap.size,0,none⟩) li.toNat ci.toNat,w.alloc (.cells (madeCells v.cells (ci.toNat*i.size)) e),_,_,(0,0),by simp [execOp,ho,hql,hqc,hrun],rfl,.inl (Nat.le_refl _),rfl,rfl,rfl,?_,acG hzr fun u hu=>T2 (hzp u (ajK hu)),fun ι' e=>acY e (by omega) ?_ (by rw [hsz2]; exact Nat.le_refl _)⟩
   ·rw [hsz2,acM,hzl]; exact Nat.le_refl _
   ·intro hc; unfold aaw at hc; split at hc
    ·rename_i e; simp only at e ⊢; exact e.symm
    ·simp only at hc; omega
  ·cases h
 ·cases h
end
end Go.AM

/- append, and what else reads or writes the heap. -/
namespace Go.AM
set_option linter.unusedSimpArgs false
set_option linter.unusedVariables false
section
variable {P:Program} {X:Ctx} {o:Oper} {st:St}
theorem abW {ng:Nat} {ι:j8} {hp:Heap} {w:World} {B:Nat} (hR:Rel ng ι hp w B) {sz:Nat} {x x':Value} {cells:List Value} (h:B6 hp sz x=some cells) (hx:VR ι x x') {tx:TypeId}
 (hk:(∃ a n c,x = .slice a n c)->∃ e',P.underlying tx=some (.slice e')) (hs:(∃ s,x = .string s)->P.underlying tx=some .string) :
 ∃ news,A0 ι cells news/\(∀ u ∈ cells,u.oneCell'=true)/\Src P sz tx x' (A4 x) news w:=by
 cases hx with
 | abA =>
   simp only [B6] at h; cases h
   obtain ⟨e',he⟩:=hk ⟨_,_,_,rfl⟩
   exact ⟨[],.nil,fun u hu=>absurd hu (by simp),Src.ofNil w he 0⟩
 | slz a a' c c' =>
   obtain ⟨e',he⟩:=hk ⟨_,_,_,rfl⟩
   have hc:cells=[]:=by
    unfold B6 at h
    split at h
    ·cases h; rfl
    ·rename_i heq; cases heq; simp at h; exact h
    ·cases h; rfl
    ·rename_i heq; cases heq
    ·cases h
   subst hc
   exact ⟨[],.nil,fun u hu=>absurd hu (by simp),Src.ofSlice w he a' 0 c' [] (by simp) (fun j u e=>by simp at e) (fun u hu=>absurd hu (by simp))⟩
 | @slc b off n c c' y hy h0 hnc hcf hroom =>
   obtain ⟨e',he⟩:=hk ⟨_,_,_,rfl⟩
   simp only [B6] at h
   rw [if_neg (by omega)] at h
   cases e:j7 hp b with
   | none=>rw [e] at h; cases h
   | some k =>
     rw [e] at h
     simp only [Option.bind_some] at h
     split at h
     ·rename_i hsz
      unfold cut at h
      split at h
      ·rename_i hle
       cases h
       obtain ⟨cs,el,fr,hb,hz,hlen,hc,_⟩:=hR.ok _ _ _ hy e
       have hcl:((k.cells.drop off).take (n*sz)).length=n*sz:=by simp; omega
       have hget:∀ (j:Nat) (v:Value),((k.cells.drop off).take (n*sz))[j]? = some v->v.oneCell'=true/\∃ v',cs[y.off+off+j]? = some v'/\VR ι v v':=by
        intro j v e
        have hj:j<n*sz:=by rw [<-hcl]; exact (List.getElem?_eq_some_iff.1 e).1
        rw [List.getElem?_take_of_lt hj,List.getElem?_drop] at e
        obtain ⟨h1,v',e',hv⟩:=hc _ _ e
        exact ⟨h1,v',by rw [<-e']; congr 1; omega,hv⟩
       have hnews:∀ (j:Nat) (u:Value),((List.range (n*sz)).map fun j=>cs.getD (y.off+off+j) undef)[j]? = some u->cs[y.off+off+j]? = some u:=by
        intro j u e
        have hj:j<n*sz:=by have:=(List.getElem?_eq_some_iff.1 e).1; simpa using this
        obtain ⟨_,v',e',_⟩:=hget j _ (List.getElem?_eq_getElem (by omega))
        simp [hj,e'] at e
        rw [e',e]
       refine ⟨(List.range (n*sz)).map fun j=>cs.getD (y.off+off+j) undef,A0.abT (by simp; omega) fun j v v' e e'=>?_,fun u hu=>?_,Src.ofSlice w he _ n c' _ (by simp) (fun j u e=>?_) (fun u hu=>?_)⟩
       ·obtain ⟨_,q,e2,hv⟩:=hget j v e
        have:=hnews j v' e'
        rw [e2] at this; cases this; exact hv
       ·obtain ⟨j,hj⟩:=List.getElem?_of_mem hu
        exact (hget j u hj).1
       ·rw [add_plain]; simp only [World.cell?,hb]; simpa using hnews j u e
       ·obtain ⟨j,hj⟩:=List.getElem?_of_mem hu
        have hjl:j<n*sz:=by have:=(List.getElem?_eq_some_iff.1 hj).1; simpa using this
        obtain ⟨h1,v',e',hv⟩:=hget j _ (List.getElem?_eq_getElem (by omega))
        have:=hnews j u hj
        rw [e'] at this; cases this
        exact hv.one h1
      ·cases h
     ·cases h
 | str s =>
   have hts:=hs ⟨s,rfl⟩
   simp only [B6] at h
   split at h
   ·rename_i h1
    cases h; subst h1
    refine ⟨byteCells s,?_,fun u hu=>?_,Src.ofString w hts s⟩
    ·refine acS fun u hu=>?_
     obtain ⟨_,_,rfl⟩:=List.mem_map.1 hu; rfl
    ·obtain ⟨_,_,rfl⟩:=List.mem_map.1 hu; rfl
   ·cases h
 | _=>simp [B6] at h
theorem ajF (z:Array Value) (n:Nat):(Builtin.zeroCells z n).size=n*z.size:=by simp [Builtin.zeroCells]
theorem adv {hp:Heap} {sz:Nat} {x:Value} {cells:List Value} (h:B6 hp sz x=some cells) (hl:∀ l c,x = .slice none l c->l=0):cells.length=A4 x*sz:=by
 unfold B6 at h
 split at h
 ·rename_i l c; cases h; simp [A4,hl _ _ rfl]
 ·rename_i b o n c
  split at h
  ·rename_i h0; cases h; simp [A4,h0]
  ·cases e:j7 hp b with
   | none=>rw [e] at h; cases h
   | some k =>
     rw [e] at h
     simp only [Option.bind_some] at h
     split at h
     ·unfold cut at h; split at h
      ·cases h; simp [A4]; omega
      ·cases h
     ·cases h
 ·cases h; simp [A4]
 ·split at h
  ·rename_i h1; cases h; subst h1; simp [A4,X0]
  ·cases h
 ·cases h
theorem ahx {ng:Nat} {ι:j8} {hp:Heap} {w:World} {B:Nat} (hR:Rel ng ι hp w B) {t u ty e:TypeId} {i:TypeInfo} {z:Value} (hd:P.underlying t=some (.slice e)) (hi:P.info? e=some i) (hz:i.zero=some z)
 (hzs:z.cells.size=i.size) {s s' x x':Value} {p7 new:List Value} (hs:VR ι s s') (hx:VR ι x x') (ho:B6 hp i.size s=some p7) (hn:B6 hp i.size x=some new)
 (hku:(∃ a n c,x = .slice a n c)->∃ e',P.underlying u=some (.slice e')) (hsu:(∃ s,x = .string s)->P.underlying u=some .string)
 {a:Option Addr} {n c:Nat} (hse:s = .slice a n c) {q:Option Addr} {c':Nat} (hse':s' = .slice q n c') (hg:c'<n+A4 x) (hby:(n+A4 x)*i.bytes<=140737488355328) (h63:n+A4 x<=9223372036854775807) :
 ∃ cs,(Builtin.append_ #[t,u] ty #[s',x']).run P w = .ok (.slice (some ⟨w.heap.size,0,none⟩) (n+A4 x) (grownCap w (n+A4 x) c' e)) (w.drew.alloc (.cells cs e)) ∧
   cs.size=grownCap w (n+A4 x) c' e*i.size/\F5 ι (p7++new) cs 0:=by
 subst hse hse'
 obtain ⟨olds,ho1,ho2,hso⟩:=abW hR ho hs (tx:=t) (fun _=>⟨e,hd⟩) (fun ⟨s,h⟩=>by cases h)
 obtain ⟨news,hn1,hn2,hsn⟩:=abW hR hn hx hku hsu
 have hrun:=run_append_grow_src (P:=P) w t u ty e i z hd hi hz q n c' olds hso.cellsD x' (A4 x) news hsn hg (by omega) (growslice_fits hg hby)
 have hge:=grownCap_ge w (n+A4 x) c' e
 refine ⟨_,hrun,?_,?_⟩
 ·have h1:=hso.newsLen
  have h2:=hsn.newsLen
  simp only [A4] at h1
  simp only [Array.size_append,List.size_toArray,List.length_append,ajF,h1,h2,hzs]
  rw [<-Nat.add_mul,<-Nat.add_mul]
  congr 1; omega
 ·refine af8 (fun j v ev=>?_) (fun u hu=>(List.mem_append.1 hu).elim (ho2 u) (hn2 u))
  obtain ⟨q,hq,hv⟩:=(ho1.append hn1).get ev
  refine ⟨q,?_,hv⟩
  have hj:j<(olds++news).length:=(List.getElem?_eq_some_iff.1 hq).1
  rw [Array.getElem?_append_left (by simpa using hj)]
  simpa using hq
end
end Go.AM

/- append and store to the heap; calls. -/
namespace Go.AM
set_option linter.unusedSimpArgs false
set_option linter.unusedVariables false
theorem aoZ {ι:j8} {a:Option Addr} {n c:Nat} {x:Value} (h:VR ι (.slice a n c) x):∃ q c',x = .slice q n c'/\n<=c'/\(c=n->c'=n)/\(∀ l k,(.slice a n c:Value) = .slice none l k->l=0):=by
 cases h with
 | abA=>exact ⟨_,_,rfl,Nat.le_refl _,fun _=>rfl,fun l c h=>by cases h; rfl⟩
 | slc _ _ h1 h2=>exact ⟨_,_,rfl,h1,h2,fun l c h=>by cases h⟩
 | slz _ _ _ _ h=>exact ⟨_,_,rfl,Nat.zero_le _,h,fun l c h=>by cases h⟩
structure adf (hp hp':Heap):Prop where
 len:hp'.length=hp.length
 get:∀ (c:Nat) (q':j4),hp'[c]? = some q'->∃ q:j4,hp[c]? = some q/\(q'.sz=q.sz/\q'.pl=q.pl) ∧
  (q'.md ≠ .gone->q.md ≠ .gone/\q'.cells=q.cells/\q'.j1=q.j1/\(q'.md = .rw->q.md = .rw)/\(q.md = .ro->q'.md = .ro))
theorem adf.w5 {hp hp':Heap} (h:adf hp hp') {c:Nat} {q':j4} (hq:j7 hp' c=some q'):∃ q,j7 hp c=some q/\q'.cells=q.cells/\q'.j1=q.j1/\(q'.md = .rw->q.md = .rw)/\(q.md = .ro->q'.md = .ro):=by
 obtain ⟨h1,h2,_⟩:=j5 hq
 obtain ⟨q,g1,_,g2⟩:=h.get c q' h1
 obtain ⟨g3,g4⟩:=g2 h2
 exact ⟨q,y3 g1 g3,g4⟩
theorem adf.awb {hp hp':Heap} (h:adf hp hp') {c:Nat} {q':j4} (hq:j7 hp' c=some q'):∃ q,j7 hp c=some q/\q'.cells=q.cells/\q'.pl=q.pl/\(q'.md = .rw->q.md = .rw):=by
 obtain ⟨h1,h2,_⟩:=j5 hq
 obtain ⟨q,g1,g0,g2⟩:=h.get c q' h1
 obtain ⟨g3,g4,_,g5,_⟩:=g2 h2
 exact ⟨q,y3 g1 g3,g4,g0.2,g5⟩
theorem amn {ng:Nat} {ι:j8} {hp hp':Heap} {w:World} {B:Nat} (hR:Rel ng ι hp w B) (h:adf hp hp'):Rel ng ι hp' w B:=by
 refine ⟨hR.D0,fun c x q' hc hq=>?_,fun c x hc=>by rw [h.len]; exact hR.B2 c x hc,hR.base,fun c x q' hc hq=>?_,fun c x k c' x' k' h1 h2 h3 h4 h5 he=>?_⟩
 ·obtain ⟨q,g1,g2,_⟩:=h.get c q' hq
  rw [g2.1]; exact hR.M6 c x q hc g1
 ·obtain ⟨q,g1,g2,g3,g4⟩:=h.awb hq
  obtain ⟨cs,el,fr,m1,m2,m3,m4,m5⟩:=hR.ok c x q hc g1
  exact ⟨cs,el,fr,m1,m2,by rw [g2]; exact m3,by rw [g2]; exact m4,fun hrw=>by rw [g3]; exact m5 (g4 hrw)⟩
 ·obtain ⟨q,g1,g2,g3,g4,_⟩:=h.w5 h2
  obtain ⟨q2,f1,f2,f3,_,f5⟩:=h.w5 h5
  rcases hR.sep c x q c' x' q2 h1 g1 (g4 h3) h4 f1 he with e | ⟨e1,e2,e3,e4⟩
  ·exact .inl e
  ·exact .inr ⟨e1,f5 e2,by rw [f3,g3]; exact e3,by rw [f2,g2]; exact e4⟩
theorem adf.sz {hp hp':Heap} (h:adf hp hp'):n7 hp hp':=fun b k hk=>by
 have hb:b<hp'.length:=by rw [h.len]; exact (List.getElem?_eq_some_iff.1 hk).1
 obtain ⟨q,g1,g2,_⟩:=h.get b _ (List.getElem?_eq_getElem hb)
 rw [hk] at g1; cases g1
 exact ⟨_,List.getElem?_eq_getElem hb,g2.1⟩
theorem alB (hp:Heap) (f:Nat):adf hp (A3 hp f):=by
 refine ⟨by simp [A3],fun c q' h=>?_⟩
 simp only [A3,List.getElem?_map,Option.map_eq_some_iff] at h
 obtain ⟨q,hq,rfl⟩:=h
 refine ⟨q,hq,⟨by split<;>rfl,by split<;>rfl⟩,fun hm=>?_⟩
 split at hm
 ·exact absurd rfl hm
 ·rename_i hf; rw [if_neg hf]; exact ⟨hm,rfl,rfl,id,id⟩
theorem abI (hp:Heap) (f:Nat):(A3 hp f).length=hp.length:=by simp [A3]
theorem adQ {hp:Heap} {f c:Nat} {q:j4} (h:j7 (A3 hp f) c=some q):j7 hp c=some q/\q.j1 ≠ f:=by
 obtain ⟨h1,h2,_⟩:=j5 h
 simp only [A3,List.getElem?_map,Option.map_eq_some_iff] at h1
 obtain ⟨q0,hq,e⟩:=h1
 split at e
 ·subst e; exact absurd rfl h2
 ·rename_i hf; subst e; exact ⟨y3 hq h2,hf⟩
theorem aro {hp:Heap} {b:Nat} {k:j4} (hk:hp[b]? = some k):adf hp ((A3 hp k.j1).set b k):=by
 have hb:b<hp.length:=(List.getElem?_eq_some_iff.1 hk).1
 refine ⟨by simp [A3],fun c q' h=>?_⟩
 rw [List.getElem?_set] at h
 split at h
 ·rename_i e; subst e
  rw [abI,if_pos hb] at h; cases h
  exact ⟨k,hk,⟨rfl,rfl⟩,fun hm=>⟨hm,rfl,rfl,id,id⟩⟩
 ·exact (alB hp k.j1).get c q' h
theorem as8 {hp:Heap} {b:Nat} {k:j4} (hk:hp[b]? = some k) (hg:k.md ≠ .gone):adf hp (hp.set b { k with md := .ro }):=by
 have hb:b<hp.length:=(List.getElem?_eq_some_iff.1 hk).1
 refine ⟨by simp,fun c q' h=>?_⟩
 rw [List.getElem?_set] at h
 split at h
 ·rename_i e; subst e
  cases h
  exact ⟨k,hk,⟨rfl,rfl⟩,fun _=>⟨hg,rfl,rfl,(fun h=>by cases h),fun _=>rfl⟩⟩
 ·exact ⟨q',h,⟨rfl,rfl⟩,fun hm=>⟨hm,rfl,rfl,id,id⟩⟩
theorem arp {hp:Heap} {b:Nat} {k:j4} (hk:j7 hp b=some k) (e:Nat):adf hp (Z2 hp b k e):=by
 obtain ⟨h1,h2,_⟩:=j5 hk
 unfold Z2
 split
 ·exact as8 h1 h2
 ·exact alB hp k.j1
theorem apK {ng:Nat} {ι:j8} {hp:Heap} {w:World} {B b e:Nat} {k:j4} {y:Img} (hR:Rel ng ι hp w B) (hy:ι b=some y) (hk:j7 hp b=some k) (hrw:k.md = .rw) {c:Nat} {x:Img} {q:j4} (hc:ι c=some x) (hq:j7 (Z2 hp b k e) c=some q)
 (hx:x.w5=y.w5):e=k.cells.length/\q.md = .ro/\q.j1=k.j1/\x.off+q.cells.length<=y.off+k.cells.length:=by
 obtain ⟨hk1,hk2,hbl⟩:=j5 hk
 by_cases he:e=k.cells.length
 ·unfold Z2 at hq
  rw [if_pos he] at hq
  refine ⟨he,?_⟩
  by_cases hcb:c=b
  ·subst hcb
   have:=(j5 hq).1
   rw [List.getElem?_set,if_pos rfl,if_pos hbl] at this
   cases this
   rw [hy] at hc; cases hc
   exact ⟨rfl,rfl,Nat.le_refl _⟩
  ·obtain ⟨g1,g2,_⟩:=j5 hq
   rw [List.getElem?_set,if_neg (Ne.symm hcb)] at g1
   rcases hR.sep b y k c x q hy hk hrw hc (y3 g1 g2) hx.symm with h | ⟨_,h⟩
   ·exact absurd h.symm hcb
   ·exact h
 ·exfalso
  unfold Z2 at hq
  rw [if_neg he] at hq
  obtain ⟨g1,g2⟩:=adQ hq
  rcases hR.sep b y k c x q hy hk hrw hc g1 hx.symm with h | ⟨_,_,h,_⟩
  ·subst h; rw [hk] at g1; cases g1; exact g2 rfl
  ·exact g2 h
theorem n7.set {hp:Heap} {b:Nat} {k q:j4} (hk:hp[b]? = some k) (hs:q.sz=k.sz):n7 hp (hp.set b q):=by
 intro c r hr
 have hb:b<hp.length:=(List.getElem?_eq_some_iff.1 hk).1
 rw [List.getElem?_set]
 split
 ·rename_i e; subst e; rw [hk] at hr; cases hr; exact ⟨q,by simp [hb],hs⟩
 ·exact ⟨r,hr,rfl⟩
theorem n7.append {hp hp':Heap} (h:n7 hp hp') (l:Heap):n7 hp (hp'++l):=by
 intro c r hr
 obtain ⟨k,hk,hs⟩:=h c r hr
 exact ⟨k,by rw [List.getElem?_append_left (List.getElem?_eq_some_iff.1 hk).1]; exact hk,hs⟩
theorem n7.refl (hp:Heap):n7 hp hp:=fun _ r hr=>⟨r,hr,rfl⟩
section
variable {P:Program} {X:Ctx} {o:Oper} {st:St}
theorem ahC {n b:Nat} (h0:0<b) (h:n*b<=140737488355328):n<=140737488355328:=Nat.le_trans (Nat.le_mul_of_pos_right n h0) h
theorem asp {ng:Nat} {ι:j8} {hp:Heap} {w:World} {B sz:Nat} {x x':Value} {cells:List Value} (_:Rel ng ι hp w B) (_:B6 hp sz x=some cells) (hx:VR ι x x'):∀ l c,x = .slice none l c->l=0:=by
 intro l c e; subst e; cases hx; rfl
def ale (P:Program) (u:TypeId) (v:Value):Prop:=((∃ a n c,v = .slice a n c)->∃ e',P.underlying u=some (.slice e'))/\((∃ s,v = .string s)->P.underlying u=some .string)
theorem aaM {t u e:TypeId} {c:Call} {s x:Operand} {vs vx:Value} {ti:TI} {b8 eb:Nat} {z:List Value} {r:Value × Heap} (ho:o.op = .call c) (hcal:c.callee = .builtin .append) (hargs:c.args.toList=[s,x]) (htys:c.argTypes.toList=[t,u])
 (ht:K8 P t ti) (hk:ti.k = .slice e b8 eb z) (hu:ale P u vx) (hs:Ev X st s (.val vs)) (hx:Ev X st x (.val vx)) (h:H7 st.hp b8 eb vs vx=some r) :
 n9 P X o st (.val r.1) st.loc r.2 .A:=by
 obtain ⟨d,hd,_,hkk⟩:=ht.und
 rw [hk] at hkk
 obtain ⟨rfl,i,v,hi,hsz,hby,hz,hzc,hzl,h0,hb0,hzp⟩:=hkk
 have hzs:v.cells.size=i.size:=by rw [hsz,<-hzl,<-hzc]; simp
 have ha:c.args = #[s,x]:=by apply Array.ext'; simpa using hargs
 have hty:c.argTypes = #[t,u]:=by apply Array.ext'; simpa using htys
 have hms:s ∈ o.op.operands:=by simp [ho,Op.operands,Call.operands,hcal,ha]
 have hmx:x ∈ o.op.operands:=by simp [ho,Op.operands,Call.operands,hcal,ha]
 have hexec:∀ a:Act,execOp a.eval o=(do pure (.value (<-Builtin.append_ #[t,u] o.type #[a.eval s,a.eval x]))):=by
  intro a; simp [execOp,ho,resolve,hcal,ha,hty,invoke,builtin]
 unfold H7 at h
 split at h
 ·rename_i aa n cc
  cases hn:B6 st.hp b8 vx with
  | none=>rw [hn] at h; cases h
  | some new =>
  rw [hn] at h
  simp only [Option.bind_some] at h
  split at h
  ·rename_i hl0
   cases h
   refine ⟨rfl,⟨[],by simp⟩,_,rfl,fun ι ρ a w B Nx Q hr hR hN=>?_⟩
   have h1:=hs.A1 hr hms
   have h2:=hx.A1 hr hmx
   obtain ⟨q,c',hq,hnc,_⟩:=aoZ h1
   obtain ⟨news,hn1,hn2,hsn⟩:=abW hR hn h2 hu.1 hu.2
   have hnl:news=[]:=by have:=hsn.newsLen; rw [hl0] at this; simpa using this
   rw [hl0,hnl] at hsn
   rw [<-hsz] at hsn
   have hrun:(Builtin.append_ #[t,u] o.type #[a.eval s,a.eval x]).run P w = .ok (a.eval s) w:=by
    rw [hq]
    rcases hsn.kind with ⟨e',hk'⟩ | hk' <;>
     (cases q<;>simp [Builtin.append_,run_underlying hd,run_underlying hk',sizeOf,typeInfo,hi,hsn.len,hnc,hsn.cells,storeCells])
   refine G0 (by rw [hexec]; simp [hrun]) (hN ι _ w (fun _ _=>rfl) (fun b x _ hb hx _=>absurd (hR.B2 _ _ hx) (by omega)) (by simpa using hR) ⟨rfl,rfl,rfl,Nat.le_refl _,fun _ _ _=>rfl⟩ h1)
  ·split at h
   ·rename_i hl0 hc
    obtain ⟨hcn,hbytes⟩:=hc
    cases hold:B6 st.hp b8 (.slice aa n cc) with
    | none=>rw [hold] at h; cases h
    | some p7 =>
    rw [hold] at h
    simp only [Option.bind_some] at h
    cases h
    refine Y9 fun ι ρ a w B hr hR=>?_
    have h1:=hs.A1 hr hms
    have h2:=hx.A1 hr hmx
    obtain ⟨q,c',hq,hnc,hfull,hnil⟩:=aoZ h1
    have hc':=hfull hcn
    have hle:=ahC hb0 hbytes
    rw [<-hsz] at hold hn
    rw [<-hby] at hbytes
    obtain ⟨cs,hrun,hcs,hcr⟩:=ahx hR (t:=t) (u:=u) (ty:=o.type) hd hi hz hzs h1 h2 hold hn hu.1 hu.2 rfl hq (by omega) hbytes (by omega)
    have hlen:=adv hold hnil
    have hlen2:=adv hn (asp hR hn h2)
    have hge:=grownCap_ge w (n+A4 vx) c' e
    simp only [A4] at hlen
    refine ⟨.slice (some ⟨w.heap.size,0,none⟩) (n+A4 vx) (grownCap w (n+A4 vx) c' e),w.drew.alloc (.cells cs e),cs,e,(0,0),by rw [hexec]; simp [hrun],rfl,.inl (Nat.le_refl _),rfl,rfl,rfl,?_,hcr,fun ι' e=>acY e hge (by omega) (by rw [hcs,hsz]; exact Nat.le_refl _)⟩
    show (p7++new).length<=cs.size
    rw [hcs,List.length_append,hlen,hlen2,<-Nat.add_mul]
    exact Nat.mul_le_mul_right _ hge
   ·cases h
 ·cases h
end
end Go.AM

/- append where there may be room; stores to the heap; calls. -/
namespace Go.AM
set_option linter.unusedSimpArgs false
set_option linter.unusedVariables false
section
variable {P:Program} {X:Ctx} {o:Oper} {st:St}
theorem atz {ng:Nat} {ι:j8} {hp:Heap} {w w':World} {B b:Nat} {k:j4} {y:Img} {new:List Value} (hR:Rel ng ι hp w B) (hy:ι b=some y) (hk:j7 hp b=some k) (hrw:k.md = .rw)
 (hexc:∀ c x q,ι c=some x->j7 hp c=some q->x.w5=y.w5->c=b)
 (hlen:new.length=k.cells.length) {cs':Array Value} {el:TypeId} {fr:Nat × Nat} (hfr:aim k.pl cs'.size fr) (hb:w'.heap[y.w5]? = some (.cells cs' el fr)) (hz:cs'.size=y.off+y.room) (hc:F5 ι new cs' y.off)
 (hrest:∀ j,j ≠ y.w5->w'.heap[j]? = w.heap[j]?) (hsize:w'.heap.size=w.heap.size):Rel ng ι (hp.set b { k with cells:=new }) w' B:=by
 obtain ⟨hk1,hk2,hbl⟩:=j5 hk
 have w5:∀ c q,j7 (hp.set b { k with cells:=new }) c=some q->(c=b/\q={ k with cells:=new })\/(c ≠ b/\j7 hp c=some q):=by
  intro c q h
  obtain ⟨h1,h2,_⟩:=j5 h
  rw [List.getElem?_set] at h1
  split at h1
  ·rename_i e; simp [hbl] at h1; exact .inl ⟨e.symm,h1.symm⟩
  ·rename_i e; exact .inr ⟨fun h=>e h.symm,y3 h1 h2⟩
 refine ⟨hR.D0,fun c x q hc' hq=>?_,fun c x hc'=>by simpa using hR.B2 c x hc',by rw [hsize]; exact hR.base,fun c x q hc' hq=>?_,fun c x q c' x' q' h1 h2 h3 h4 h5 he=>?_⟩
 ·rw [List.getElem?_set] at hq
  split at hq
  ·rename_i e; simp [hbl] at hq; subst e; rw [<-hq]; exact hR.M6 b x k hc' hk1
  ·exact hR.M6 c x q hc' hq
 ·rcases w5 c q hq with ⟨rfl,rfl⟩ | ⟨hne,h⟩
  ·rw [hy] at hc'; cases hc'
   obtain ⟨_,_,_,_,_,hl,_,hB⟩:=hR.ok c y k hy hk
   exact ⟨cs',el,fr,hb,hz,by show new.length<=_; rw [hlen]; exact hl,hc,fun _=>⟨hfr,(hB hrw).2⟩⟩
  ·obtain ⟨cs,el2,fr2,e,h1,h2,h3,h4⟩:=hR.ok c x q hc' h
   have:x.w5 ≠ y.w5:=fun e=>hne (hexc c x q hc' h e)
   exact ⟨cs,el2,fr2,by rw [hrest _ this]; exact e,h1,h2,h3,h4⟩
 ·rcases w5 c q h2 with ⟨rfl,rfl⟩ | ⟨hne,h⟩<;>rcases w5 c' q' h5 with ⟨rfl,rfl⟩ | ⟨hne',h'⟩
  ·exact .inl rfl
  ·rw [hy] at h1; cases h1; exact absurd (hexc c' x' q' h4 h' he.symm) hne'
  ·rw [hy] at h4; cases h4; exact absurd (hexc c x q h1 h he) hne
  ·exact hR.sep c x q c' x' q' h1 h h3 h4 h' he
theorem ana {t:TypeId} {x y:Operand} {ti:TI} {p v:Value} {cs:List Value} {hp':Heap} (ho:o.op = .store t x y) (ht:K8 P t ti) (hx:Ev X st x (.val p)) (hy:Ev X st y (.val v))
 (hc:S3 ti.agg ti.size v cs) (h:aet st.hp p cs=some hp'):n9 P X o st .B4 st.loc hp' .W:=by
 unfold aet at h
 split at h
 ·rename_i b off
  cases e:j7 st.hp b with
  | none=>rw [e] at h; cases h
  | some k =>
    rw [e] at h
    simp only [Option.bind_some] at h
    split at h
    ·rename_i hcond
     obtain ⟨hrw,hle⟩:=hcond
     cases h
     obtain ⟨ek1,ek2,ekb⟩:=j5 e
     have hset:(A3 st.hp k.j1).set b { k with cells:=D1 k.cells off cs }=((A3 st.hp k.j1).set b k).set b { k with cells:=D1 k.cells off cs }:=by rw [List.set_set]
     have hb1:b<(A3 st.hp k.j1).length:=by rw [abI]; exact ekb
     have e1k:((A3 st.hp k.j1).set b k)[b]? = some k:=by rw [List.getElem?_set,if_pos rfl,if_pos hb1]
     have hweak:=aro ek1
     have hszk:n7 st.hp ((A3 st.hp k.j1).set b { k with cells:=D1 k.cells off cs }):=by
      rw [hset]
      exact fun c q hq=>by
       obtain ⟨q1,g1,g2⟩:=hweak.sz c q hq
       obtain ⟨q2,g3,g4⟩:=n7.set (q:={ k with cells:=D1 k.cells off cs }) e1k rfl c q1 g1
       exact ⟨q2,g3,by rw [g4,g2]⟩
     refine ⟨rfl,hszk,(fun _ _ h=>by cases h),fun ι ρ a w B Nx Q hr hR hN=>?_⟩
     have h1:=hx.A1 hr (by simp [ho,Op.operands])
     have h2:=hy.A1 hr (by simp [ho,Op.operands])
     obtain ⟨hvs,hone⟩:=hc.rel h2
     have hlen:=hc.len ht.sz
     have hsz:(a.eval y).cells.size=ti.size:=by have:=hvs.length; simp at this; omega
     have hone':∀ u ∈ (a.eval y).cells.toList,u.oneCell'=true:=by
      intro u hu
      obtain ⟨i,hi⟩:=List.getElem?_of_mem hu
      have hi2:i<cs.length:=by rw [hvs.length]; exact (List.getElem?_eq_some_iff.1 hi).1
      obtain ⟨q,hq,hv⟩:=hvs.get (List.getElem?_eq_getElem hi2)
      rw [hi] at hq; cases hq
      exact hv.one (hone _ (List.getElem_mem hi2))
     generalize hq:a.eval x=q at *
     cases h1 with
     | @ptr _ _ z hz =>
       obtain ⟨A,el,fr,hb,hzz,hl,hcr,hB⟩:=hR.ok _ _ _ hz e
       have hrun:=agv (off:=z.off+off) ht hb (hB hrw).1 hsz (by omega) hone'
       obtain ⟨A',e1,e2,e3,e4,e5,e6,e7,e8⟩:=Z1 (a.eval y).cells.toList (z.off+off) w z.w5 A el fr hb (by simp; omega)
       have hexc:∀ c x q,ι c=some x->j7 ((A3 st.hp k.j1).set b k) c=some q->x.w5=z.w5->c=b:=by
        intro c x q hc' hq' hx'
        by_cases hcb:c=b
        ·exact hcb
        ·obtain ⟨g1,g2,_⟩:=j5 hq'
         rw [List.getElem?_set,if_neg (Ne.symm hcb)] at g1
         obtain ⟨g3,g4⟩:=adQ (y3 g1 g2)
         rcases hR.sep b z k c x q hz e hrw hc' g3 hx'.symm with h | ⟨_,_,h,_⟩
         ·exact h.symm
         ·exact absurd h g4
       have hrel:=atz (w':=w.setCells z.w5 (z.off+off) (a.eval y).cells.toList) (amn hR hweak) hz (y3 e1k ek2) hrw hexc (aa3 hle) (by rw [e2]; exact (hB hrw).1) e1 (by rw [e2,hzz]) (aiY hcr hle hvs hone (fun i=>by simpa using e3 i)) e4 e5
       rw [<-hset] at hrel
       refine aeI (by simp [execOp,ho,Instr.storeAt,Instr.sureAddr,hq,hrun]) (hN ι undef _ (fun _ _=>rfl) hrel ?_ ?_ .B4)
       rotate_left
       ·intro b' x' k' hb' hk' hx'
        by_cases hbb:b'=b
        ·subst hbb
         rw [hz] at hb'; cases hb'
         exact ⟨b',_,k,hz,e,.inl rfl,fun _=>hrw,rfl⟩
        ·obtain ⟨g1,g2,_⟩:=j5 hk'
         rw [List.getElem?_set,if_neg (fun h=>hbb h.symm)] at g1
         exact ⟨b',x',k',hb',(adQ (y3 g1 g2)).1,.inl rfl,id,rfl⟩
       refine ⟨e6,e7,e8,by omega,fun j hj hno=>e4 j fun h=>?_⟩
       exact hno _ _ _ hz e hrw h.symm
    ·cases h
 ·cases h
theorem aln {t u e:TypeId} {c:Call} {s x:Operand} {vs vx:Value} {ti:TI} {b8 eb:Nat} {z:List Value} {r:Value × Heap} (ho:o.op = .call c) (hcal:c.callee = .builtin .append) (hargs:c.args.toList=[s,x]) (htys:c.argTypes.toList=[t,u])
 (ht:K8 P t ti) (hk:ti.k = .slice e b8 eb z) (hu:ale P u vx) (hs:Ev X st s (.val vs)) (hx:Ev X st x (.val vx)) (h:acg st.hp b8 eb vs vx=some r) :
 n9 P X o st (.val r.1) st.loc r.2 .W:=by
 have weaken:n9 P X o st (.val r.1) st.loc r.2 .A->n9 P X o st (.val r.1) st.loc r.2 .W:=by
  rintro ⟨h1,⟨new,h2⟩,v,h3,h4⟩
  cases h3
  exact ⟨h1,by rw [h2]; exact (n7.refl _).append _,(fun _ _ h=>by cases h),fun ι ρ a w B Nx Q hr hR hN=>h4 ι ρ a w B Nx Q hr hR fun ι' v' w' a1 a2 a3 a4 a5=>hN ι' v' w' a1 a3 a4 (by rw [h2]; exact akc hR a1 (fun b x k p q s=>a2 b x k p q (by rw [h2]; exact s))) (.val a5)⟩
 unfold acg at h
 split at h
 ·rename_i aa n cc
  split at h
  ·exact weaken (aaM ho hcal hargs htys ht hk hu hs hx h)
  ·rename_i hne
   by_cases hl0:A4 vx=0
   ·refine weaken (aaM ho hcal hargs htys ht hk hu hs hx ?_)
    rw [<-h]
    simp [H7,hl0]
   ·obtain ⟨d,hd,_,hkk⟩:=ht.und
    rw [hk] at hkk
    obtain ⟨rfl,i,v,hi,hsz,hby,hz,hzc,hzl,h0,hb0,hzp⟩:=hkk
    have hzs:v.cells.size=i.size:=by rw [hsz,<-hzl,<-hzc]; simp
    have ha:c.args = #[s,x]:=by apply Array.ext'; simpa using hargs
    have hty:c.argTypes = #[t,u]:=by apply Array.ext'; simpa using htys
    have hms:s ∈ o.op.operands:=by simp [ho,Op.operands,Call.operands,hcal,ha]
    have hmx:x ∈ o.op.operands:=by simp [ho,Op.operands,Call.operands,hcal,ha]
    have hexec:∀ a:Act,execOp a.eval o=(do pure (.value (<-Builtin.append_ #[t,u] o.type #[a.eval s,a.eval x]))):=by
     intro a; simp [execOp,ho,resolve,hcal,ha,hty,invoke,builtin]
    cases hn:B6 st.hp b8 vx with
    | none=>rw [hn] at h; cases h
    | some new =>
    rw [hn] at h
    simp only [Option.bind_some,if_neg hl0] at h
    split at h
    ·rename_i hcond
     obtain ⟨hn0,hbytes⟩:=hcond
     cases hold:B6 st.hp b8 (.slice aa n cc) with
     | none=>rw [hold] at h; cases h
     | some p7 =>
     rw [hold] at h
     simp only [Option.bind_some] at h
     split at h
     ·rename_i b off
      cases ek:j7 st.hp b with
      | none=>rw [ek] at h; cases h
      | some k =>
      rw [ek] at h
      simp only [Option.bind_some] at h
      split at h
      ·rename_i hrw
       cases h
       obtain ⟨hk1,hk2,hbl⟩:=j5 ek
       have hweak:=arp ek (off+n*b8)
       have hL:(Z2 st.hp b k (off+n*b8)).length=st.hp.length:=hweak.len
       refine ⟨rfl,hweak.sz.append _,(fun _ _ h=>by cases h),fun ι ρ a w B Nx Q hr hR hN=>?_⟩
       have h1:=hs.A1 hr hms
       have h2:=hx.A1 hr hmx
       have hle:=ahC hb0 hbytes
       have hold':=hold
       have hn':=hn
       rw [<-hsz] at hold' hn'
       rw [<-hby] at hbytes
       have hlen:=adv hold (by intro l c e; cases e)
       have hlen2:=adv hn (asp hR hn h2)
       simp only [A4] at hlen
       have hkill:=amn hR hweak
       cases hq:a.eval s with
       | slice q n' c' =>
         rw [hq] at h1
         cases h1 with
         | @slc _ _ _ _ _ y hy _ hnc hfull hroom =>
           have hysz:y.sz=b8:=by
            rw [<-hR.M6 b y k hy hk1]
            simp only [B6] at hold
            rw [if_neg (by omega),ek] at hold
            simp only [Option.bind_some] at hold
            split at hold
            ·assumption
            ·cases hold
           by_cases hroomy:n+A4 vx<=c'
           ·-- there is room
            obtain ⟨A,el,fr,hb,hzz,hl,hcr,hB⟩:=hR.ok _ _ _ hy ek
            obtain ⟨news,hn1,hn2,hsn⟩:=abW hR hn' h2 hu.1 hu.2
            have hnl:=hsn.newsLen
            have hspan:(n+A4 vx)*b8<=c'*b8:=Nat.mul_le_mul_right _ hroomy
            have hsplit:(n+A4 vx)*b8=n*b8+A4 vx*b8:=Nat.add_mul _ _ _
            have hroom':off+c'*b8<=y.room:=by rw [<-hysz]; exact hroom
            rw [hsz] at hnl
            have hni:n*i.size=n*b8:=by rw [hsz]
            have hrun:=run_append_room_src (P:=P) w t u o.type e i hd hi y.w5 (y.off+off) n c' (a.eval x) (A4 vx) news hsn hroomy (fun j hj=>by
             simp only [World.cell?,hb]; simp; rw [hsz]; omega) (fun j hj=>by
             simp only [World.frozen?,hb]
             obtain ⟨lo,hi'⟩:=fr
             simp
             rcases (hB hrw).1 with h | h<;>simp at h<;>omega)
            rw [hsz] at hrun
            obtain ⟨A',e1,e2,e3,e4,e5,e6,e7,e8⟩:=Z1 news (y.off+off+n*b8) w y.w5 A el fr hb (by omega)
            have hexec':(execOp a.eval o).run P w = .ok (.value (.slice (some ⟨y.w5,y.off+off,none⟩) (n+A4 vx) c')) (w.setCells y.w5 (y.off+off+n*b8) news):=by rw [hexec,hq]; simp [hrun]
            refine G0 hexec' (hN (fun b'=>if b'=st.hp.length then some ⟨y.w5,y.off+off,y.room-off,b8⟩ else ι b') _ _ (fun b' hb'=>by show (if b'=st.hp.length then _ else _)=_; rw [if_neg (by omega)]) ?_ ?_ ?_ ?_)
            ·-- the relation
             have hsub:Sub ι (fun b'=>if b'=st.hp.length then some ⟨y.w5,y.off+off,y.room-off,b8⟩ else ι b'):=fun b' x' hb'=>by
              show (if b'=st.hp.length then _ else _)=_
              rw [if_neg (by have:=hR.B2 _ _ hb'; omega)]; exact hb'
             have hother:∀ b' x' q',ι b'=some x'->j7 (Z2 st.hp b k (off+n*b8)) b'=some q'->x'.w5 ≠ y.w5\/(off+n*b8=k.cells.length/\q'.md = .ro/\q'.j1=k.j1/\x'.off+q'.cells.length<=y.off+k.cells.length):=by
              intro b' x' q' hb' hq'
              by_cases hx':x'.w5=y.w5
              ·exact .inr (apK hR hy ek hrw hb' hq' hx')
              ·exact .inl hx'
             have hnewblk:∀ q',j7 (Z2 st.hp b k (off+n*b8)++[⟨p7++new,b8,.rw,k.j1,k.pl⟩]) st.hp.length=some q'->q'=⟨p7++new,b8,.rw,k.j1,k.pl⟩:=by
              intro q' hq'
              have:=(j5 hq').1
              rw [List.getElem?_append_right (by omega)] at this
              simp [hL] at this; exact this.symm
             refine ⟨fun g hg=>?_,fun b' x' q' hb' hq'=>?_,fun b' x' hb'=>?_,by rw [e5]; exact hR.base,fun b' x' q' hb' hq'=>?_,fun b1 x1 q1 b2 x2 q2 g1 g2 g3 g4 g5 g6=>?_⟩
             ·obtain ⟨x',a1,a2⟩:=hR.D0 g hg; exact ⟨x',hsub _ _ a1,a2⟩
             ·by_cases hbb:b'=st.hp.length
              ·subst hbb
               rw [if_pos rfl] at hb'; cases hb'
               rw [List.getElem?_append_right (by omega)] at hq'
               simp [hL] at hq'; subst hq'; rfl
              ·rw [if_neg hbb] at hb'
               have:=hR.B2 _ _ hb'
               rw [List.getElem?_append_left (by omega)] at hq'
               exact hkill.M6 _ _ _ hb' hq'
             ·by_cases hbb:b'=st.hp.length
              ·subst hbb; simp [hL]
              ·rw [if_neg hbb] at hb'; have:=hR.B2 _ _ hb'; simp [hL]; omega
             ·by_cases hbb:b'=st.hp.length
              ·subst hbb
               rw [if_pos rfl] at hb'; cases hb'
               rw [hnewblk q' hq']
               have hcr':F5 ι p7 A (y.off+off):=by
                intro j vj ej
                simp only [B6] at hold
                rw [if_neg (by omega),ek] at hold
                simp only [Option.bind_some] at hold
                split at hold
                ·unfold cut at hold
                 split at hold
                 ·cases hold
                  have hj:j<n*b8:=by have:=(List.getElem?_eq_some_iff.1 ej).1; omega
                  rw [List.getElem?_take_of_lt hj,List.getElem?_drop] at ej
                  obtain ⟨o1,v',o2,o3⟩:=hcr _ _ ej
                  exact ⟨o1,v',by rw [<-o2]; congr 1; omega,o3⟩
                 ·cases hold
                ·cases hold
               refine ⟨A',el,fr,e1,by rw [e2,hzz]; show _=y.off+off+(y.room-off); omega,by show (p7++new).length<=y.room-off; rw [List.length_append,hlen,hlen2]; omega,?_,fun _=>⟨by rw [e2]; exact (hB hrw).1,(hB hrw).2⟩⟩
               refine F5.mono hsub ?_
               intro j vj ej
               show _/\∃ v',A'[y.off+off+j]? = some v'/\_
               rw [e3]
               by_cases hjo:j<n*b8
               ·rw [List.getElem?_append_left (by omega)] at ej
                obtain ⟨o1,v',o2,o3⟩:=hcr' j vj ej
                exact ⟨o1,v',by rw [if_neg (by omega)]; exact o2,o3⟩
               ·rw [List.getElem?_append_right (by omega)] at ej
                obtain ⟨v',o2,o3⟩:=hn1.get ej
                have:j-p7.length<news.length:=(List.getElem?_eq_some_iff.1 o2).1
                exact ⟨hn2 vj (List.mem_of_getElem? ej),v',by rw [if_pos (by omega),<-o2]; congr 1; omega,o3⟩
              ·rw [if_neg hbb] at hb'
               have hd':=hR.B2 _ _ hb'
               rw [w9 _ (by omega)] at hq'
               obtain ⟨cs2,el2,fr2,m1,m2,m3,m4,m5⟩:=hkill.ok b' x' q' hb' hq'
               rcases hother _ _ _ hb' hq' with hne' | ⟨he1,he2,he3,he4⟩
               ·exact ⟨cs2,el2,fr2,by rw [e4 _ hne']; exact m1,m2,m3,m4.mono hsub,m5⟩
               ·by_cases hxy:x'.w5=y.w5
                ·rw [hxy,hb] at m1; cases m1
                 refine ⟨A',el,fr,by rw [hxy]; exact e1,by rw [e2]; exact m2,m3,F5.mono hsub fun j vj ej=>?_,fun h=>by rw [he2] at h; cases h⟩
                 obtain ⟨o1,v',o2,o3⟩:=m4 j vj ej
                 have hj:j<q'.cells.length:=(List.getElem?_eq_some_iff.1 ej).1
                 exact ⟨o1,v',by rw [e3,if_neg (by omega)]; exact o2,o3⟩
                ·exact ⟨cs2,el2,fr2,by rw [e4 _ hxy]; exact m1,m2,m3,m4.mono hsub,m5⟩
             ·by_cases hb1:b1=st.hp.length<;>by_cases hb2:b2=st.hp.length
              ·exact .inl (by omega)
              ·subst hb1
               rw [if_pos rfl] at g1; cases g1
               rw [if_neg hb2] at g4
               have hd2:=hR.B2 _ _ g4
               rw [w9 _ (by omega)] at g5
               rw [hnewblk q1 g2]
               rcases hother _ _ _ g4 g5 with h | ⟨he1,he2,he3,he4⟩
               ·exact absurd g6.symm h
               ·refine .inr ⟨hd2,he2,he3,?_⟩
                show _<=y.off+off+(p7++new).length
                rw [List.length_append,hlen]; omega
              ·subst hb2
               rw [if_pos rfl] at g4; cases g4
               rw [if_neg hb1] at g1
               rw [w9 _ (by have:=hR.B2 _ _ g1; omega)] at g2
               rcases hother _ _ _ g1 g2 with h | ⟨he1,he2,he3,he4⟩
               ·exact absurd g6 h
               ·rw [he2] at g3; cases g3
              ·rw [if_neg hb1] at g1
               rw [if_neg hb2] at g4
               rw [w9 _ (by have:=hR.B2 _ _ g1; omega)] at g2
               rw [w9 _ (by have:=hR.B2 _ _ g4; omega)] at g5
               exact hkill.sep _ _ _ _ _ _ g1 g2 g3 g4 g5 g6
            ·exact ⟨e6,e7,e8,by omega,fun j hj hno=>e4 j fun h=>hno _ _ _ hy ek hrw h.symm⟩
            ·intro b' x' k' hb' hk' hx'
             change (if b'=st.hp.length then _ else _)=_ at hb'
             by_cases hbb:b'=st.hp.length
             ·subst hbb
              rw [if_pos rfl] at hb'; cases hb'
              exact ⟨b,y,k,hy,ek,.inr hrw,fun _=>hrw,rfl⟩
             ·rw [if_neg hbb] at hb'
              rw [w9 _ (by have:=hR.B2 _ _ hb'; omega)] at hk'
              obtain ⟨q0,g1,_,_,g4,_⟩:=hweak.w5 hk'
              exact ⟨b',x',q0,hb',g1,.inl rfl,g4,rfl⟩
            ·refine .val ?_
             unfold K3
             have hι:(fun b'=>if b'=st.hp.length then some (⟨y.w5,y.off+off,y.room-off,b8⟩:Img) else ι b') st.hp.length=some ⟨y.w5,y.off+off,y.room-off,b8⟩:=by simp
             have:=VR.slc (ι:=fun b'=>if b'=st.hp.length then some (⟨y.w5,y.off+off,y.room-off,b8⟩:Img) else ι b') (o:=0) (n:=n+A4 vx) (c:=n+A4 vx+1) (c':=c') hι (by omega) hroomy (by omega) (by show 0+c'*b8<=y.room-off; omega)
             simpa using this
           ·-- there is none
            obtain ⟨cs,hrun,hcs,hcr⟩:=ahx hR (t:=t) (u:=u) (ty:=o.type) hd hi hz hzs (VR.slc hy hn0 hnc hfull hroom) h2 hold' hn' hu.1 hu.2 rfl rfl (by omega) hbytes (by omega)
            have hge:=grownCap_ge w (n+A4 vx) c' e
            obtain ⟨ι',hι,f1,f2,f3,f4⟩:=alH hkill ⟨p7++new,b8,.rw,k.j1,k.pl⟩ cs e (0,0) (.inl (Nat.le_refl _)) (w':=w.drew.alloc (.cells cs e)) rfl rfl rfl rfl (by
             show (p7++new).length<=cs.size
             rw [hcs,List.length_append,hlen,hlen2,<-Nat.add_mul,hsz]
             exact Nat.mul_le_mul_right _ hge) hcr
            have hex:(execOp a.eval o).run P w = .ok (.value (.slice (some ⟨w.heap.size,0,none⟩) (n+A4 vx) (grownCap w (n+A4 vx) c' e))) (w.drew.alloc (.cells cs e)):=by rw [hexec,hq]; simp [hrun]
            refine G0 hex (hN ι' _ _ (fun b' hb'=>f1 b' (by rw [hL]; exact hb')) f3 ⟨f4.os,f4.tape,f4.output,f4.size,fun j hj _=>by
             show (w.heap.push _)[j]? = _
             rw [Array.getElem?_push,if_neg (by omega)]⟩ ?_ (.val ?_))
            ·intro b' x' k' hb' hk' hx'
             obtain ⟨b0,x0,k0,g1,g2,g5,g3,g4⟩:=akc (new:=[⟨p7++new,b8,.rw,k.j1,k.pl⟩]) hkill f1 (fun b x _ h1 h2 _=>f2 b x h1 h2) b' x' k' hb' hk' hx'
             obtain ⟨q0,m1,_,_,m4,_⟩:=hweak.w5 g2
             exact ⟨b0,x0,q0,g1,m1,g5.imp id m4,fun h=>m4 (g3 h),g4⟩
            refine acY (w:=w) (room:=cs.size) (sz:=b8) (by rw [hι]; simp [hL]) hge (by omega) (by rw [hcs,hsz]; exact Nat.le_refl _)
         | slz=>omega
       | _=>rw [hq] at h1; cases h1
      ·cases h
     ·cases h
    ·cases h
 ·cases h
end
end Go.AM

/- Bytes and strings, lengths, calls: every operation. -/
namespace Go.AM
set_option linter.unusedSimpArgs false
set_option linter.unusedVariables false
def Enters (P:Program) (f:FuncId):Prop:=∃ fn,P.funcs[f]? = some fn/\(fn.name == "runtime.NumGoroutine")=false/\fn.body.isNone=false
def amR (P:Program) (ng:Nat) (call:FuncId->List Value->Heap->Option (Value × Heap)):Prop :=
 ∀ f args hp r hp',call f args hp=some (r,hp')->Enters P f/\n7 hp hp' ∧
   ∀ ι w B (args':Array Value),Rel ng ι hp w B->A0 ι args args'.toList →
     Calls P f args' w fun e w'=>∃ ι' r',e = .returned r'/\U3 hp.length ι ι'/\Rel ng ι' hp' w' B/\Fr ι hp w w'/\Own ι hp w ι' hp'/\VR ι' r r'
def aoG (P:Program) (kind:FuncId->Nat) (ext:Nat->List Value->Option Value):Prop :=
 ∀ f n vs v,kind f=n+3->ext n vs=some v->∀ ι (vs':Array Value) w,A0 ι vs vs'.toList->∃ v',(callFunc f vs').run P w = .ok (.value v') w/\VR ι v v'
structure XOk (P:Program) (X:Ctx):Prop where
 tab:∀ t ti,look X.tab t=some ti->K8 P t ti
 call:amR P X.ng X.call
 ext:aoG P X.kind X.ext
theorem aiM {P:Program} {f:FuncId} (h:Enters P f) (args:Array Value) (w:World):(callFunc f args).run P w = .ok (.enter f args) w:=by
 obtain ⟨fn,h1,h2,h3⟩:=h
 simp only [callFunc,Sem.run_bind,run_program,Result.andThen_ok,h1]
 simp [h2,h3]
theorem ai5 {ι ι':j8} {v v':Value} (h:abj v=true) (hv:VR ι' v v'):VR ι v v':=by
 cases hv<;>first | exact .bool _ | exact .int _ _ | exact .str _ | (simp [abj] at h)
theorem ao5 {ι ι':j8} {v v':Value} (h:ad3 v=true) (hv:VR ι' v v'):VR ι v v':=by
 unfold ad3 at h
 split at h
 ·cases hv with
  | @tuple cs cs' hz hc =>
    refine .tuple hz fun i u u' e e'=>?_
    have hs:abj u=true:=by
     simp only [Array.all_eq_true] at h
     obtain ⟨hi,rfl⟩:=Array.getElem?_eq_some_iff.1 e
     exact h i hi
    exact ai5 hs (hc i u u' e e')
 ·exact ai5 h hv
section
variable {P:Program} {X:Ctx} {o:Oper} {st:St}
theorem apC {c:Call} {x:Operand} {t:TypeId} {va v:Value} (ho:o.op = .call c) (hcal:c.callee = .builtin .len) (hargs:c.args.toList=[x]) (htys:c.argTypes.toList=[t]) (hd:P.underlying t=some .string)
 (hx:Ev X st x (.val va)) (h:ak4 va=some v):n9 P X o st (.val v) st.loc st.hp .P:=by
 have ha:c.args = #[x]:=by apply Array.ext'; simpa using hargs
 have hty:c.argTypes = #[t]:=by apply Array.ext'; simpa using htys
 refine J1 fun ι ρ a w hr=>?_
 have h1:=hx.A1 hr (by simp [ho,Op.operands,Call.operands,hcal,ha])
 unfold ak4 at h
 split at h
 ·cases h
  generalize hq:a.eval x=q at *
  cases h1
  exact ⟨_,by simp [execOp,ho,resolve,hcal,ha,hty,invoke,builtin,hq,Builtin.len_,run_underlying hd,goInt],.int _ _⟩
 ·cases h
theorem apf {c:Call} {x:Operand} {t e:TypeId} {va v:Value} (ho:o.op = .call c) (hcal:c.callee = .builtin .len) (hargs:c.args.toList=[x]) (htys:c.argTypes.toList=[t]) (hd:P.underlying t=some (.slice e))
 (hx:Ev X st x (.val va)) (h:alk va=some v):n9 P X o st (.val v) st.loc st.hp .P:=by
 have ha:c.args = #[x]:=by apply Array.ext'; simpa using hargs
 have hty:c.argTypes = #[t]:=by apply Array.ext'; simpa using htys
 refine J1 fun ι ρ a w hr=>?_
 have h1:=hx.A1 hr (by simp [ho,Op.operands,Call.operands,hcal,ha])
 unfold alk at h
 split at h
 ·rename_i aa n cc
  cases h
  obtain ⟨q,c2,hq,_⟩:=aoZ h1
  exact ⟨.int .i64 n,by simp [execOp,ho,resolve,hcal,ha,hty,invoke,builtin,hq,Builtin.len_,run_underlying hd,goInt],.int _ _⟩
 ·cases h
theorem arV {c:Call} {x y:Operand} {va vb v:Value} (ho:o.op = .call c) (hcal:c.callee = .builtin .min) (hargs:c.args.toList=[x,y]) (hx:Ev X st x (.val va)) (hy:Ev X st y (.val vb)) (h:alJ va vb=some v):n9 P X o st (.val v) st.loc st.hp .P:=by
 have ha:c.args = #[x,y]:=by apply Array.ext'; simpa using hargs
 refine J1 fun ι ρ a w hr=>?_
 have h1:=hx.A1 hr (by simp [ho,Op.operands,Call.operands,hcal,ha])
 have h2:=hy.A1 hr (by simp [ho,Op.operands,Call.operands,hcal,ha])
 unfold alJ at h
 split at h
 ·split at h
  ·cases h
   generalize hq:a.eval x=q at *
   generalize hq':a.eval y=q' at *
   cases h1; cases h2
   exact ⟨_,by simp [execOp,ho,resolve,hcal,ha,invoke,builtin,Builtin.min_,hq,hq',Builtin.min2],.int _ _⟩
  ·cases h
 ·cases h
theorem apZ {c:Call} {f:FuncId} {first:Array Operand} (ho:o.op = .call c) {fv:Operand} (hcal:c.callee = .value fv) {a:Act} {caps:Array Value} (hf:a.eval fv = .func (.func f) #[] caps) (he:Enters P f) (w:World) :
 (execOp a.eval o).run P w = .ok (.enter f (c.args.map a.eval++caps)) w:=by
 simp [execOp,ho,resolve,hcal,hf,Deferred.ofValue,invoke,aiM he]
theorem acs {c:Call} {fv:Operand} {f:FuncId} {caps:List Value} {vs:List Value} {r:Value × Heap} (hX:XOk P X) (ho:o.op = .call c) (hcal:c.callee = .value fv) (hf:Ev X st fv (.val (.func (.func f) #[] caps.toArray)))
 (hargs:Evs X st c.args.toList vs) (h:X.call f (vs++caps) st.hp=some r):n9 P X o st (.val r.1) st.loc r.2 .W:=by
 obtain ⟨he,hk,hc⟩:=hX.call _ _ _ _ _ h
 refine ⟨rfl,hk,(fun _ _ h=>by cases h),fun ι ρ a w B Nx Q hr hR hN=>?_⟩
 have h1:=hf.A1 hr (by simp [ho,Op.operands,Call.operands,hcal])
 have h2:=hargs.rel hr (fun x hx=>by simp [ho,Op.operands,Call.operands,hcal]; exact .inr (by simpa using hx))
 generalize hq:a.eval fv=q at *
 cases h1 with
 | @fn _ _ cs' hz hcc =>
   have hcaps:A0 ι caps cs'.toList:=A0.abT (by simpa using hz) fun i v v' e e'=>hcc i v v' (by simpa using e) (by simpa using e')
   unfold Oper.wp
   rw [apZ (first := #[]) ho hcal hq he w]
   refine (hc ι w B _ hR (by simpa using h2.append hcaps)).mono fun e w' ⟨ι',r',he,h1,h2,h3,h5,h4⟩=>?_
   subst he
   exact hN ι' r' w' h1 h2 h3 h5 (.val h4)
theorem ajo {c:Call} {fv:Operand} {f:FuncId} {caps:List Value} {vs:List Value} {v:Value} (hX:XOk P X) (ho:o.op = .call c) (hcal:c.callee = .value fv) (hf:Ev X st fv (.val (.func (.func f) #[] caps.toArray)))
 (hargs:Evs X st c.args.toList vs) (h:R8 X.call f (vs++caps) st.hp=some v):n9 P X o st (.val v) st.loc st.hp .H:=by
 unfold R8 at h
 cases hcl:X.call f (vs++caps) st.hp with
 | none=>rw [hcl] at h; cases h
 | some r =>
   rw [hcl] at h
   simp only [Option.bind_some] at h
   split at h
   ·rename_i hcond
    obtain ⟨htake,hsc⟩:=hcond
    cases h
    obtain ⟨_,hk,_,hW⟩:=acs hX ho hcal hf hargs hcl
    refine ⟨rfl,rfl,_,rfl,fun ι ρ a w B Nx Q hr hR hN=>hW ι ρ a w B Nx Q hr hR fun ι' v' w' h1 h2 h3 _ h4=>?_⟩
    cases h4 with
    | val h4 =>
    have hle:st.hp.length<=r.2.length:=by have:=congrArg List.length htake; simp at this; omega
    have hget:∀ b,b<st.hp.length->r.2[b]? = st.hp[b]?:=fun b hb=>by rw [<-htake,List.getElem?_take_of_lt hb]
    have hblk:∀ b,b<st.hp.length->j7 r.2 b=j7 st.hp b:=fun b hb=>by unfold j7; rw [hget b hb]
    have heq:∀ b x,ι b=some x->ι' b=some x:=fun b x hb=>by rw [h1 b (hR.B2 _ _ hb)]; exact hb
    refine hN v' w' ⟨hR.D0,hR.M6,hR.B2,h2.base,fun b x k hb hbk=>?_,fun b x k b' x' k' g1 g2 g3 g4 g5 g6=>?_⟩ h3 (ao5 hsc h4)
    ·have hd:=hR.B2 _ _ hb
     obtain ⟨cs,el,fr,m1,m2,m3,m4,m5⟩:=h2.ok b x k (heq _ _ hb) (by rw [hblk b hd]; exact hbk)
     obtain ⟨_,_,_,_,_,_,n4,_⟩:=hR.ok b x k hb hbk
     refine ⟨cs,el,fr,m1,m2,m3,fun i v e=>?_,m5⟩
     obtain ⟨o1,u,_,o2⟩:=n4 i v e
     obtain ⟨_,v',o3,o4⟩:=m4 i v e
     exact ⟨o1,v',o3,o2.back heq o4⟩
    ·exact h2.sep b x k b' x' k' (heq _ _ g1) (by rw [hblk b (hR.B2 _ _ g1)]; exact g2) g3 (heq _ _ g4) (by rw [hblk b' (hR.B2 _ _ g4)]; exact g5) g6
   ·cases h
theorem aot {c:Call} {fv:Operand} {f:FuncId} {caps:List Value} {vs:List Value} {r:Value × Heap} (hX:XOk P X) (ho:o.op = .call c) (hcal:c.callee = .value fv) (hf:Ev X st fv (.val (.func (.func f) #[] caps.toArray)))
 (hargs:Evs X st c.args.toList vs) (h:R2 X.call f (vs++caps) st.hp=some r):n9 P X o st (.val r.1) st.loc r.2 .A:=by
 unfold R2 at h
 cases hcl:X.call f (vs++caps) st.hp with
 | none=>rw [hcl] at h; cases h
 | some r' =>
   rw [hcl] at h
   simp only [Option.bind_some] at h
   split at h
   ·rename_i htake
    cases h
    obtain ⟨_,hk,_,hW⟩:=acs hX ho hcal hf hargs hcl
    have hnew:r.2=st.hp++r.2.drop st.hp.length:=by
     have:=List.take_append_drop st.hp.length r.2
     rw [htake] at this; exact this.symm
    have hle:st.hp.length<=r.2.length:=by have:=congrArg List.length htake; simp at this; omega
    have hblk:∀ b,b<st.hp.length->j7 r.2 b=j7 st.hp b:=fun b hb=>by rw [hnew,w9 _ hb]
    refine ⟨rfl,⟨_,hnew⟩,_,rfl,fun ι ρ a w B Nx Q hr hR hN=>hW ι ρ a w B Nx Q hr hR fun ι' v' w' h1 h2 h3 h5 h4=>?_⟩
    cases h4 with
    | val h4 =>
    refine hN ι' v' w' h1 (fun b x k hb hx hk=>?_) h2 h3 h4
    rcases Nat.lt_or_ge x.w5 w.heap.size with hlt | hge
    ·exfalso
     obtain ⟨b0,x0,k0,g1,g2,g3,_,g5⟩:=h5 b x k hx hk hlt
     have hb0:=hR.B2 _ _ g1
     rcases g3 with g3 | g3
     ·omega
     ·have g1':ι' b0=some x0:=by rw [h1 b0 hb0]; exact g1
      rcases h2.sep b0 x0 k0 b x k g1' (by rw [hblk b0 hb0]; exact g2) g3 hx hk g5 with h | ⟨h,_⟩<;>omega
    ·exact hge
   ·cases h
theorem arf {c:Call} {f n:Nat} {vs:List Value} {v:Value} (hX:XOk P X) (ho:o.op = .call c) (hcal:c.callee = .value (.func f)) (hargs:Evs X st c.args.toList vs) (hk:X.kind f=n+3) (h:X.ext n vs=some v):n9 P X o st (.val v) st.loc st.hp .P:=by
 refine J1 fun ι ρ a w hr=>?_
 have h2:=hargs.rel hr (fun x hx=>by simp [ho,Op.operands,Call.operands,hcal]; exact .inr (by simpa using hx))
 obtain ⟨v',h3,h4⟩:=hX.ext f n vs v hk h ι (c.args.map a.eval) w (by simpa using h2)
 exact ⟨v',by simp [execOp,ho,resolve,hcal,Act.eval,Deferred.ofValue,invoke]; exact h3,h4⟩
theorem arh {src dst e:TypeId} {x:Operand} {s:ByteArray} (ho:o.op = .convert src dst x) (hs:P.underlying src=some .string) (hd:P.underlying dst=some (.slice e)) (he:P.underlying e=some (.int .u8)) (hx:Ev X st x (.val (.string s))) :
 n9 P X o st (.val (K3 st.hp s.size (s.size+1))) st.loc (st.hp++[⟨X0 s,1,.rw,st.hp.length,false⟩]) .A:=by
 refine Y9 fun ι ρ a w B hr hR=>?_
 have h1:=hx.A1 hr (by simp [ho,Op.operands])
 generalize hq:a.eval x=q at *
 cases h1
 have hrun:=run_bytes_of_string (P:=P) w src dst e s hs hd he
 have hge:=grownCap_ge w s.size 0 e
 have hsize:(bytesRow s (grownCap w s.size 0 e)).size=grownCap w s.size 0 e:=by
  simp [bytesRow]; omega
 refine ⟨.slice (some ⟨w.heap.size,0,none⟩) s.size (grownCap w s.size 0 e),w.drew.alloc (.cells (bytesRow s (grownCap w s.size 0 e)) e ((bytesRow s (grownCap w s.size 0 e)).size,(bytesRow s (grownCap w s.size 0 e)).size+1)),bytesRow s (grownCap w s.size 0 e),e,_,by simp [execOp,ho,hq,hrun],rfl,.inr ⟨Nat.le_refl _,rfl⟩,rfl,rfl,rfl,?_,af8 (fun i v ev=>?_) (fun u hu=>?_),fun ι' e'=>acY e' hge (by omega) (by rw [hsize]; show _*1<=_; omega)⟩
 ·show (X0 s).length<=_; rw [hsize]; simp [X0]; exact hge
 ·refine ⟨v,?_,?_⟩
  ·have hi:i<(X0 s).length:=(List.getElem?_eq_some_iff.1 ev).1
   have hi':i<s.size:=by simpa [X0] using hi
   simp only [X0,List.getElem?_map] at ev
   unfold bytesRow
   rw [Array.getElem?_append_left (by simpa using hi')]
   simpa using ev
  ·have:=List.mem_of_getElem? ev
   obtain ⟨_,_,rfl⟩:=List.mem_map.1 this
   exact .int _ _
 ·obtain ⟨_,_,rfl⟩:=List.mem_map.1 hu; rfl
end
end Go.AM

/- Every operation of the abstract machine. -/
namespace Go.AM
set_option linter.unusedSimpArgs false
set_option linter.unusedVariables false
theorem afC:∀ {cs:List Value} {bs:List UInt8},Y6 cs=some bs->∃ xs:List Int,cs=xs.map (Value.int .u8)/\bs=xs.map fun n=>UInt8.ofNat n.toNat
 | [],bs,h=>by simp [Y6] at h; exact ⟨[],rfl,by simp [h]⟩
 | v::cs,bs,h=>by
   unfold Y6 at h
   split at h
   ·cases h; rename_i heq; cases heq
   ·rename_i n l heq
    cases heq
    cases e:Y6 cs with
    | none=>rw [e] at h; cases h
    | some r =>
      rw [e] at h
      obtain ⟨xs,rfl,rfl⟩:=afC e
      cases h
      exact ⟨n::xs,rfl,rfl⟩
   ·cases h
theorem alP {ι:j8}:∀ {xs:List Int} {l:List Value},A0 ι (xs.map (Value.int .u8)) l->l=xs.map (Value.int .u8)
 | [],l,h=>by cases h; rfl
 | x::xs,l,h=>by
   cases h with
   | cons h h'=>cases h; rw [alP h']; rfl
section
variable {P:Program} {X:Ctx} {o:Oper} {st:St}
theorem arJ {src dst e:TypeId} {x:Operand} {va v:Value} (ho:o.op = .convert src dst x) (hs:P.underlying src=some (.slice e)) (hd:P.underlying dst=some .string) (he:P.underlying e=some (.int .u8)) (hx:Ev X st x (.val va))
 (h:aki st.hp va=some v):n9 P X o st (.val v) st.loc st.hp .H:=by
 unfold aki at h
 split at h
 ·rename_i aa n c
  cases hr:B6 st.hp 1 (.slice aa n c) with
  | none=>rw [hr] at h; cases h
  | some cs =>
  rw [hr] at h
  simp only [Option.bind_some] at h
  cases hb:Y6 cs with
  | none=>rw [hb] at h; cases h
  | some bs =>
  rw [hb] at h; cases h
  obtain ⟨xs,rfl,rfl⟩:=afC hb
  refine ⟨rfl,rfl,_,rfl,fun ι ρ a w B Nx Q hop hR hN=>?_⟩
  have h1:=hx.A1 hop (by simp [ho,Op.operands])
  obtain ⟨news,hn1,_,hsn⟩:=abW hR hr h1 (tx:=src) (fun _=>⟨e,hs⟩) (fun ⟨s,h⟩=>by cases h)
  have hne:=alP hn1
  subst hne
  have hcv:(convert src dst (a.eval x)).run P w = .ok (.string (strOfNums xs)) w:=by
   obtain ⟨q,c',hq,_⟩:=aoZ h1
   rw [hq] at hsn ⊢
   cases q with
   | none =>
     have:=run_convert_bytes_nil (P:=P) w src e hs he n c' dst hd
     rw [this]
     have hc:=hsn.cells
     simp [Builtin.firstCells] at hc
     subst hc
     rfl
   | some z =>
     rw [run_convert_bytes_string w src dst e _ n c' hs he hd,run_bytesToString w _ n c' xs (by have:=hsn.cells; simpa [Builtin.firstCells,A4] using this),foldl_push_bytes]
     simp [strOfNums,ByteArray.empty,ByteArray.emptyWithCapacity]
     rfl
  exact G0 (v := .string (strOfNums xs)) (by simp [execOp,ho,hcv]) (hN _ w hR ⟨rfl,rfl,rfl,Nat.le_refl _,fun _ _ _=>rfl⟩ (.str _))
 ·cases h
theorem ai3 {t:TypeId} {x:Operand} {f n:Nat} {agg:Bool} {fields:Array Field} {fd:Field} {g:TypeInfo} {u:TypeDesc} {va v:Value} {cs:List Value} (ho:o.op = .field t x f) (hd:P.underlying t=some (.struct fields)) (hf:fields[f]? = some fd)
 (hg:P.info? fd.type=some g) (hu:P.underlying fd.type=some u) (hag:V9 u=agg) (hx:Ev X st x (.val va)) (hn:afR n va=some cs)
 (h:U2 agg g.size cs fd.offset=some v):n9 P X o st (.val v) st.loc st.hp .P:=by
 refine J1 fun ι ρ a w hr=>?_
 have h1:=hx.A1 hr (by simp [ho,Op.operands])
 unfold afR at hn
 split at hn
 ·rename_i A
  split at hn
  ·cases hn
   generalize hq:a.eval x=q at *
   cases h1 with
   | @agg _ A' hz hc hone =>
     have hia:=afg hu hag w
     cases agg with
     | false =>
       simp only [U2] at h
       have h':A[fd.offset]? = some v:=by simpa using h
       have hi:fd.offset<A'.size:=by rw [<-hz]; exact (Array.getElem?_eq_some_iff.1 h').1
       refine ⟨A'[fd.offset],?_,hc _ _ _ h' (Array.getElem?_eq_getElem hi)⟩
       simp [execOp,ho,hq,Instr.field,run_underlying hd,hf,asAgg,part,hia,Array.getElem?_eq_getElem hi]
     | true =>
       simp only [U2] at h
       cases hcut:cut A.toList fd.offset g.size with
       | none=>rw [hcut] at h; cases h
       | some c =>
         rw [hcut] at h; cases h
         unfold cut at hcut
         split at hcut
         ·rename_i hle
          cases hcut
          refine ⟨.agg (A'.extract fd.offset (fd.offset+g.size)),by simp [execOp,ho,hq,Instr.field,run_underlying hd,hf,asAgg,part,hia,sizeOf,typeInfo,hg],?_⟩
          simp at hle
          have hget:∀ (i:Nat) (v:Value),(List.take g.size (List.drop fd.offset A.toList)).toArray[i]? = some v->i<g.size/\A[fd.offset+i]? = some v:=by
           intro i v e
           have e':(List.take g.size (List.drop fd.offset A.toList))[i]? = some v:=by simpa using e
           have hi:i<g.size:=by have:=(List.getElem?_eq_some_iff.1 e').1; simp at this; omega
           rw [List.getElem?_take_of_lt hi,List.getElem?_drop] at e'
           exact ⟨hi,by simpa using e'⟩
          refine .agg (by simp; omega) (fun i v v' e e'=>?_) (fun i v e=>hone _ _ (hget i v e).2)
          obtain ⟨hi,e2⟩:=hget i v e
          refine hc _ _ _ e2 ?_
          rw [Array.getElem?_extract] at e'
          split at e'
          ·exact e'
          ·cases e'
         ·cases hcut
  ·cases hn
 ·cases hn
variable {R:Type} {A:M5} {K:EV->List (Nat × List Value)->Heap->A8->Option R} {r:R}
theorem a7 {α β:Type} {x:Option α} {f:α->Option β} {b:β} (h:x.bind f=some b):∃ a,x=some a/\f a=some b:=by
 cases x with
 | none=>cases h
 | some a=>exact ⟨a,rfl,h⟩
theorem agu {ti:TI} {fs:List (Nat × Nat × Bool)} {t:TypeId} {f off n:Nat} {agg:Bool} (ht:K8 P t ti) (hk:ti.k = .struct fs) (hf:fs[f]? = some (off,n,agg)) :
 ∃ (fields:Array Field) (fd:Field) (g:TypeInfo) (u:TypeDesc),P.underlying t=some (.struct fields)/\fields[f]? = some fd/\fd.offset=off/\P.info? fd.type=some g/\g.size=n/\0<g.size/\P.underlying fd.type=some u/\V9 u=agg:=by
 obtain ⟨d,hd,_,hkk⟩:=ht.und
 rw [hk] at hkk
 obtain ⟨fields,rfl,_,h⟩:=hkk
 obtain ⟨fd,g,u,h1,h2,h3,h4,h5,h6,h7,_⟩:=h f off n agg hf
 exact ⟨fields,fd,g,u,hd,h1,h2,h3,h4,by omega,h6,h7⟩
theorem abB {ti:TI} {t e:TypeId} {b8 eb:Nat} {z:List Value} (ht:K8 P t ti) (hk:ti.k = .slice e b8 eb z):∃ g,P.underlying t=some (.slice e)/\P.info? e=some g/\g.size=b8:=by
 obtain ⟨d,hd,_,hkk⟩:=ht.und
 rw [hk] at hkk
 obtain ⟨rfl,i,v,hi,hsz,_⟩:=hkk
 exact ⟨i,hd,hi,hsz⟩
theorem ab7 {ti:TI} {t:TypeId} (ht:K8 P t ti) (hk:ti.k = .str):P.underlying t=some .string:=by
 obtain ⟨d,hd,_,hkk⟩:=ht.und
 rw [hk] at hkk; rw [hd,hkk]
theorem ajw {ti:TI} {t:TypeId} {k:IntKind} (ht:K8 P t ti) (hk:ti.k = .int k):P.underlying t=some (.int k):=by
 obtain ⟨d,hd,_,hkk⟩:=ht.und
 rw [hk] at hkk; rw [hd,hkk]
end
end Go.AM

/- Arrays of elements of one cell: built, indexed, sliced through a pointer. -/
namespace Go.AM
set_option linter.unusedSimpArgs false
set_option linter.unusedVariables false
section
variable {P:Program} {X:Ctx} {o:Oper} {st:St}
theorem anh {t:TypeId} {parts:Array (Nat × Operand)} {ti:TI} {n b8:Nat} {cells':List Value} (ho:o.op = .build t parts) (ht:K8 P t ti) (hk:ti.k = .arr n b8)
 (hp:acE X st (aoK n b8) parts.toList ti.zero cells'):n9 P X o st (.val (.agg cells'.toArray)) st.loc st.hp .P:=by
 refine J1 fun ι ρ a w hr=>?_
 obtain ⟨i,v,hi,hsz,hz,hzc,hzl,hzp⟩:=ht.info
 obtain ⟨d,hd,hag,hkk⟩:=ht.und
 rw [hk] at hkk
 obtain ⟨e,g,rfl,hg,hgs,u,hu,hua⟩:=hkk
 have hzr:A0 ι ti.zero v.cells.toList:=by rw [hzc]; exact acS hzp
 obtain ⟨cs',hfill,hv,h1⟩:=ahY hr (place':=fun i=>some (i*g.size,g.size)) (fun j off m agg q=>by
  unfold aoK at q
  split at q
  ·rename_i hc; cases q; rw [hgs,hc.1,Nat.mul_one]; exact ⟨rfl,fun _=>rfl⟩
  ·cases q) hp (fun p hp=>by simp [ho,Op.operands]; exact ⟨p.1,by simpa using hp⟩) v.cells hzr (fun u hu=>T2 (hzp u hu))
 have hb:P.built t (parts.map fun (i,x)=>(i,a.eval x)).toList=some cs':=by
  simp only [Program.built,hi,hd,hz,hg]
  rw [<-hfill]
  congr 1
  simp
 refine ⟨.agg cs',by simp [execOp,ho,run_build w t _ cs' hb],?_⟩
 refine .agg (by simpa using hv.length) (fun j u u' e e'=>?_) (fun j u e=>h1 u (List.mem_of_getElem? (by simpa using e)))
 obtain ⟨q,hq,hr'⟩:=hv.get (i:=j) (v:=u) (by simpa using e)
 have:cs'[j]? = some q:=by simpa using hq
 rw [this] at e'; cases e'; exact hr'
theorem alp {t:TypeId} {x i:Operand} {n b8:Nat} {e:TypeId} {g:TypeInfo} {u:TypeDesc} {va vi v:Value} (ho:o.op = .index t x i) (hd:P.underlying t=some (.array n e)) (hg:P.info? e=some g) (hgs:g.size=b8)
 (hu:P.underlying e=some u) (hua:b8=1->V9 u=false) (hx:Ev X st x (.val va)) (hi:Ev X st i (.val vi)) (h:aeg n b8 va vi=some v):n9 P X o st (.val v) st.loc st.hp .P:=by
 refine J1 fun ι ρ a w hr=>?_
 have h1:=hx.A1 hr (by simp [ho,Op.operands])
 have h2:=hi.A1 hr (by simp [ho,Op.operands])
 unfold aeg at h
 split at h
 ·rename_i cs k j
  split at h
  ·rename_i hc
   obtain ⟨he,hj0,hjn⟩:=hc
   generalize hq:a.eval x=q at *
   generalize hq':a.eval i=q' at *
   cases h2
   cases h1 with
   | @agg _ A' hz hc hone =>
     have hia:=afg hu (hua he) w
     have hi':j.toNat<A'.size:=by rw [<-hz]; exact (Array.getElem?_eq_some_iff.1 h).1
     have hs:g.size=1:=by rw [hgs,he]
     refine ⟨A'[j.toNat],?_,hc _ _ _ h (Array.getElem?_eq_getElem hi')⟩
     simp [execOp,ho,hq,hq',Instr.index,run_underlying hd,asIntOf,hj0,hjn,sizeOf,typeInfo,hg,hs,part,hia,Array.getElem?_eq_getElem hi']
  ·cases h
 ·cases h
theorem am3 {t e:TypeId} {x:Operand} {n b8:Nat} {g:TypeInfo} {va v:Value} (ho:o.op = .slice t x none none none) (hd:P.underlying t=some (.array n e)) (hg:P.info? e=some g) (hgs:g.size=b8)
 (hx:Ev X st x (.val va)) (h:aee st.hp n b8 va=some v):n9 P X o st (.val v) st.loc st.hp .H:=by
 refine ⟨rfl,rfl,v,rfl,fun ι ρ a w B Nx Q hr hR hN=>?_⟩
 have h1:=hx.A1 hr (by simp [ho,Op.operands])
 unfold aee at h
 split at h
 ·rename_i b off
  cases e:j7 st.hp b with
  | none=>rw [e] at h; cases h
  | some k =>
    rw [e] at h
    simp only [Option.bind_some] at h
    split at h
    ·rename_i hc
     obtain ⟨hn,rfl,hks,hlen⟩:=hc
     cases h
     generalize hq:a.eval x=q at *
     cases h1 with
     | @ptr _ _ y hy =>
       obtain ⟨cs,el,fr,hb,hz,hlen',hcr,_⟩:=hR.ok _ _ _ hy e
       have hys:y.sz=1:=by rw [<-hR.M6 _ _ _ hy (j5 e).1]; exact hks
       refine G0 (v := .slice (some ⟨y.w5,y.off+off,none⟩) n n) ?_ (hN _ w hR ⟨rfl,rfl,rfl,Nat.le_refl _,fun _ _ _=>rfl⟩ (.slc hy hn (Nat.le_refl _) (fun _=>rfl) (by rw [hys]; omega)))
       have hnz:¬ n=0:=by omega
       simp [execOp,ho,Instr.sliceAt,Instr.sureAddr,run_underlying hd,hq,asAddr,hgs,Instr.sliceBounds,sizeOf,typeInfo,hg,hnz,add_plain]
    ·cases h
 ·cases h
end
end Go.AM

/- Every operation of the abstract machine stands for what the world does. -/
namespace Go.AM
set_option linter.unusedSimpArgs false
set_option linter.unusedVariables false
section
variable {P:Program} {X:Ctx} {A:M5} {R:Type} {K:EV->List (Nat × List Value)->Heap->A8->Option R} {r:R} {o:Oper} {st:St}
set_option maxHeartbeats 1000000 in
theorem afO (hX:XOk P X) (h:A2 X A o st K=some r):∃ e loc' hp' c,K e loc' hp' c=some r/\n9 P X o st e loc' hp' c:=by
 unfold A2 at h
 cases hop:o.op with
 | move x =>
   simp only [hop] at h
   obtain ⟨e,he,h⟩:=aa8 h
   exact ⟨_,_,_,_,h,akX (.inl hop) he⟩
 | assign x =>
   simp only [hop] at h
   obtain ⟨e,he,h⟩:=aa8 h
   exact ⟨_,_,_,_,h,akX (.inr hop) he⟩
 | pick c x y =>
   simp only [hop] at h
   obtain ⟨vc,hc,h⟩:=y6 h
   obtain ⟨ex,hx,h⟩:=aa8 h
   obtain ⟨ey,hy,h⟩:=aa8 h
   split at h
   ·obtain ⟨v,hv,h⟩:=a7 h
    refine ⟨_,_,_,_,h,ags hop hc hx hy ?_⟩
    unfold ak8 at hv
    split at hv
    ·cases hv; exact .inl ⟨rfl,rfl⟩
    ·cases hv; exact .inr ⟨rfl,rfl⟩
    ·cases hv
   ·unfold O0 at h
    split at h
    ·cases h
    ·exact ⟨_,_,_,_,h,ags hop hc hx hy (.inr ⟨rfl,rfl⟩)⟩
    ·cases h
   ·unfold O0 at h
    split at h
    ·exact ⟨_,_,_,_,h,ags hop hc hx hy (.inl ⟨rfl,rfl⟩)⟩
    ·cases h
    ·cases h
   ·cases h
 | alloc elem =>
   simp only [hop] at h
   split at h
   ·rename_i ti d ht hd
    split at h
    ·split at h
     ·rename_i hl
      exact ⟨_,_,_,_,h,anj hop hd (hX.tab _ _ ht) hl⟩
     ·cases h
    ·exact ⟨_,_,_,_,h,am1 hop (hX.tab _ _ ht)⟩
   ·cases h
 | box elem x =>
   simp only [hop] at h
   split at h
   ·rename_i ti d ht hd
    obtain ⟨v,hv,h⟩:=y6 h
    obtain ⟨cs,hcs,h⟩:=agz h
    split at h
    ·split at h
     ·rename_i hl
      exact ⟨_,_,_,_,h,ap7 hop hd hv hcs hl⟩
     ·cases h
    ·exact ⟨_,_,_,_,h,aqk hop hv hcs⟩
   ·cases h
 | build t parts =>
   simp only [hop] at h
   split at h
   ·rename_i fs z _ _ ht
    obtain ⟨cells',hp,h⟩:=adq h
    exact ⟨_,_,_,_,h,aoX hop (hX.tab _ _ ht) rfl hp⟩
   ·rename_i n b8 z _ _ ht
    obtain ⟨cells',hp,h⟩:=adq h
    exact ⟨_,_,_,_,h,anh hop (hX.tab _ _ ht) rfl hp⟩
   ·cases h
 | buildSlice t len parts =>
   simp only [hop] at h
   split at h
   ·rename_i e b8 eb z _ _ _ ht
    split at h
    ·rename_i te hte
     split at h
     ·rename_i hb
      obtain ⟨cells',hp,h⟩:=adq h
      exact ⟨_,_,_,_,h,ajl hop (hX.tab _ _ ht) rfl (hX.tab _ _ hte) (Nat.le_of_ble_eq_true hb) hp⟩
     ·cases h
    ·cases h
   ·cases h
 | load t x =>
   simp only [hop] at h
   split at h
   ·rename_i ti ht
    obtain ⟨e,he,h⟩:=aa8 h
    split at h
    ·rename_i k off
     split at h
     ·rename_i cs hk
      split at h
      ·rename_i hag
       obtain ⟨c,hc,h⟩:=a7 h
       exact ⟨_,_,_,_,h,ai1 hop (hX.tab _ _ ht) he hk (by simp [U2,hag,hc])⟩
      ·rename_i hag
       obtain ⟨v,hv,h⟩:=a7 h
       exact ⟨_,_,_,_,h,ai1 hop (hX.tab _ _ ht) he hk (by simp [U2,hag,hv])⟩
     ·cases h
    ·obtain ⟨v,hv,h⟩:=a7 h
     exact ⟨_,_,_,_,h,aox hop (hX.tab _ _ ht) he hv⟩
    ·cases h
   ·cases h
 | store t x y =>
   simp only [hop] at h
   split at h
   ·rename_i ti ht
    obtain ⟨e,he,h⟩:=aa8 h
    obtain ⟨v,hv,h⟩:=y6 h
    obtain ⟨cs,hcs,h⟩:=agz h
    split at h
    ·rename_i k off
     split at h
     ·rename_i p7 hk
      split at h
      ·rename_i hb
       exact ⟨_,_,_,_,h,amW hop (hX.tab _ _ ht) he hv hk hcs (Nat.le_of_ble_eq_true hb)⟩
      ·cases h
     ·cases h
    ·obtain ⟨hp',hh,h⟩:=a7 h
     exact ⟨_,_,_,_,h,ana hop (hX.tab _ _ ht) he hv hcs hh⟩
    ·cases h
   ·cases h
 | nilCheck x =>
   simp only [hop] at h
   obtain ⟨e,he,h⟩:=aa8 h
   split at h
   ·exact ⟨_,_,_,_,h,am6 hop he⟩
   ·obtain ⟨v,hv,h⟩:=a7 h
    exact ⟨_,_,_,_,h,ak0 hop he hv⟩
   ·cases h
 | binOp op t x y yt =>
   simp only [hop] at h
   split at h
   ·rename_i ti ht
    obtain ⟨a,ha,h⟩:=y6 h
    obtain ⟨b,hb,h⟩:=y6 h
    obtain ⟨v,hv,h⟩:=a7 h
    exact ⟨_,_,_,_,h,aoP hop (hX.tab _ _ ht) ha hb hv⟩
   ·cases h
 | unOp op t x =>
   simp only [hop] at h
   obtain ⟨a,ha,h⟩:=y6 h
   obtain ⟨v,hv,h⟩:=a7 h
   exact ⟨_,_,_,_,h,aqu hop ha hv⟩
 | convert src dst x =>
   simp only [hop] at h
   split at h
   ·rename_i ts td hts htd
    obtain ⟨va,ha,h⟩:=y6 h
    split at h
    ·rename_i k k' hk hk'
     obtain ⟨v,hv,h⟩:=a7 h
     exact ⟨_,_,_,_,h,aoS hop (ajw (hX.tab _ _ hts) hk') (ajw (hX.tab _ _ htd) hk) ha hv⟩
    ·rename_i hk hk'
     obtain ⟨v,hv,h⟩:=a7 h
     exact ⟨_,_,_,_,h,aoA hop (ab7 (hX.tab _ _ hts) hk') (ab7 (hX.tab _ _ htd) hk) ha hv⟩
    ·rename_i hk hk'
     split at h
     ·rename_i e _ _ _ s hk2
      split at h
      ·rename_i hte
       obtain ⟨g,hd,_⟩:=abB (hX.tab _ _ htd) hk2
       exact ⟨_,_,_,_,h,arh hop (ab7 (hX.tab _ _ hts) hk') hd (ajw (hX.tab _ _ hte) rfl) ha⟩
      ·cases h
     ·cases h
    ·rename_i e _ _ _ hk hk'
     split at h
     ·rename_i hte
      obtain ⟨v,hv,h⟩:=a7 h
      obtain ⟨g,hd,_⟩:=abB (hX.tab _ _ hts) hk'
      exact ⟨_,_,_,_,h,arJ hop hd (ab7 (hX.tab _ _ htd) hk) (ajw (hX.tab _ _ hte) rfl) ha hv⟩
     ·cases h
    ·cases h
   ·cases h
 | makeFunc fn first captured =>
   simp only [hop] at h
   split at h
   ·rename_i hz
    obtain ⟨vs,hvs,h⟩:=agM h
    exact ⟨_,_,_,_,h,ak3 hop hz hvs⟩
   ·cases h
 | makeSlice t l c =>
   simp only [hop] at h
   split at h
   ·rename_i e b8 eb z _ _ _ ht
    obtain ⟨vl,hl,h⟩:=y6 h
    obtain ⟨vc,hc,h⟩:=y6 h
    obtain ⟨n,hn,h⟩:=a7 h
    exact ⟨_,_,_,_,h,aj8 hop (hX.tab _ _ ht) rfl hl hc hn⟩
   ·cases h
 | slice t x lo hi mx =>
   simp only [hop] at h
   split at h
   ·rename_i ht
    obtain ⟨v,hv,h⟩:=y6 h
    obtain ⟨l,hl,h⟩:=afK h
    obtain ⟨k,hk,h⟩:=afK h
    split at h
    ·obtain ⟨u,hu,h⟩:=a7 h
     exact ⟨_,_,_,_,h,amZ hop (ab7 (hX.tab _ _ ht) rfl) hv hl hk hu⟩
    ·cases h
   ·rename_i e b8 eb z _ _ _ ht
    obtain ⟨v,hv,h⟩:=y6 h
    obtain ⟨l,hl,h⟩:=afK h
    obtain ⟨k,hk,h⟩:=afK h
    obtain ⟨m,hm,h⟩:=afK h
    obtain ⟨g,hd,hg,hgs⟩:=abB (hX.tab _ _ ht) rfl
    subst hgs
    obtain ⟨u,hu,h⟩:=a7 h
    exact ⟨_,_,_,_,h,am4 hop hd hg hv hl hk hm hu⟩
   ·rename_i n b8 _ _ _ ht
    split at h
    ·obtain ⟨v,hv,h⟩:=y6 h
     obtain ⟨d,hd,_,e,g,rfl,hg,hgs,_⟩:=(hX.tab _ _ ht).und
     obtain ⟨u,hu,h⟩:=a7 h
     exact ⟨_,_,_,_,h,am3 hop hd hg hgs hv hu⟩
    ·cases h
   ·cases h
 | fieldAddr t x f =>
   simp only [hop] at h
   split at h
   ·rename_i fs _ _ _ ht
    split at h
    ·rename_i off n agg hf
     obtain ⟨fields,fd,g,u,h1,h2,rfl,h4,h5,h6,_⟩:=agu (hX.tab _ _ ht) rfl hf
     obtain ⟨e,he,h⟩:=aa8 h
     split at h
     ·exact ⟨_,_,_,_,h,anf hop h1 h2 h4 h6 he⟩
     ·obtain ⟨v,hv,h⟩:=a7 h
      exact ⟨_,_,_,_,h,apy hop h1 h2 h4 h6 he hv⟩
     ·cases h
    ·cases h
   ·cases h
 | field t x f =>
   simp only [hop] at h
   split at h
   ·rename_i fs n _ _ ht
    split at h
    ·rename_i off m agg hf
     obtain ⟨fields,fd,g,u,h1,h2,rfl,h4,rfl,h6,h7,h8⟩:=agu (hX.tab _ _ ht) rfl hf
     obtain ⟨v,hv,h⟩:=y6 h
     obtain ⟨cs,hcs,h⟩:=a7 h
     split at h
     ·obtain ⟨c,hc,h⟩:=a7 h
      exact ⟨_,_,_,_,h,ai3 hop h1 h2 h4 h7 h8 hv hcs (by simp [U2,hc])⟩
     ·obtain ⟨c,hc,h⟩:=a7 h
      exact ⟨_,_,_,_,h,ai3 hop h1 h2 h4 h7 h8 hv hcs (by simp [U2,hc])⟩
    ·cases h
   ·cases h
 | indexAddr t x i =>
   simp only [hop] at h
   split at h
   ·rename_i e b8 eb z _ _ _ ht
    obtain ⟨v,hv,h⟩:=y6 h
    obtain ⟨j,hj,h⟩:=y6 h
    obtain ⟨g,hd,hg,hgs⟩:=abB (hX.tab _ _ ht) rfl
    subst hgs
    obtain ⟨u,hu,h⟩:=a7 h
    exact ⟨_,_,_,_,h,ap1 hop hd hg hv hj hu⟩
   ·rename_i n b8 _ _ _ ht
    obtain ⟨v,hv,h⟩:=y6 h
    obtain ⟨j,hj,h⟩:=y6 h
    obtain ⟨d,hd,_,e,g,rfl,hg,hgs,_⟩:=(hX.tab _ _ ht).und
    subst hgs
    obtain ⟨u,hu,h⟩:=a7 h
    exact ⟨_,_,_,_,h,ao1 hop hd hg hv hj hu⟩
   ·cases h
 | index t x i =>
   simp only [hop] at h
   split at h
   ·rename_i ht
    obtain ⟨v,hv,h⟩:=y6 h
    obtain ⟨j,hj,h⟩:=y6 h
    obtain ⟨u,hu,h⟩:=a7 h
    exact ⟨_,_,_,_,h,amb hop (ab7 (hX.tab _ _ ht) rfl) hv hj hu⟩
   ·rename_i n b8 _ _ _ ht
    obtain ⟨v,hv,h⟩:=y6 h
    obtain ⟨j,hj,h⟩:=y6 h
    obtain ⟨d,hd,_,e,g,rfl,hg,hgs,ud,hud,hua⟩:=(hX.tab _ _ ht).und
    obtain ⟨u,hu,h⟩:=a7 h
    exact ⟨_,_,_,_,h,alp hop hd hg hgs hud hua hv hj hu⟩
   ·cases h
 | extract x i =>
   simp only [hop] at h
   obtain ⟨v,hv,h⟩:=y6 h
   obtain ⟨u,hu,h⟩:=a7 h
   exact ⟨_,_,_,_,h,alu hop hv hu⟩
 | call c =>
   simp only [hop] at h
   split at h
   ·rename_i hcal
    split at h
    ·rename_i x t hargs htys
     split at h
     ·rename_i ht
      obtain ⟨v,hv,h⟩:=y6 h
      obtain ⟨u,hu,h⟩:=a7 h
      exact ⟨_,_,_,_,h,apC hop hcal hargs htys (ab7 (hX.tab _ _ ht) rfl) hv hu⟩
     ·rename_i ht
      obtain ⟨v,hv,h⟩:=y6 h
      obtain ⟨u,hu,h⟩:=a7 h
      obtain ⟨g,hd,_⟩:=abB (hX.tab _ _ ht) rfl
      exact ⟨_,_,_,_,h,apf hop hcal hargs htys hd hv hu⟩
     ·cases h
    ·cases h
   ·rename_i hcal
    split at h
    ·rename_i x y hargs
     obtain ⟨v,hv,h⟩:=y6 h
     obtain ⟨u,hu,h⟩:=y6 h
     obtain ⟨m,hm,h⟩:=a7 h
     exact ⟨_,_,_,_,h,arV hop hcal hargs hv hu hm⟩
    ·cases h
   ·rename_i hcal
    split at h
    ·rename_i x y t u d hargs htys hdst
     split at h
     ·rename_i ht hu
      obtain ⟨s,hs,h⟩:=y6 h
      obtain ⟨v,hv,h⟩:=y6 h
      obtain ⟨v',hv',h⟩:=a7 h
      obtain ⟨g,hd,_⟩:=abB (hX.tab _ _ hu) rfl
      have hsv:v'=v/\ale P u v:=by
       unfold vSl at hv'
       split at hv'
       ·cases hv'; exact ⟨rfl,And.intro (fun _=>⟨_,hd⟩) (fun ⟨s,h⟩=>by cases h)⟩
       ·cases hv'
      have hst:=hsv.2
      have hsv1:=hsv.1
      rw [hsv1] at h
      split at h
      ·obtain ⟨q,hq,h⟩:=a7 h
       exact ⟨_,_,_,_,h,aaM hop hcal hargs htys (hX.tab _ _ ht) rfl hst hs hv hq⟩
      ·obtain ⟨q,hq,h⟩:=a7 h
       exact ⟨_,_,_,_,h,aln hop hcal hargs htys (hX.tab _ _ ht) rfl hst hs hv hq⟩
     ·rename_i ht hu
      obtain ⟨s,hs,h⟩:=y6 h
      obtain ⟨v,hv,h⟩:=y6 h
      obtain ⟨v',hv',h⟩:=a7 h
      have hd:=ab7 (hX.tab _ _ hu) rfl
      have hsv:v'=v/\ale P u v:=by
       unfold ah6 at hv'
       split at hv'
       ·cases hv'; exact ⟨rfl,And.intro (fun ⟨a,n,c,h⟩=>by cases h) (fun _=>hd)⟩
       ·cases hv'
      have hst:=hsv.2
      have hsv1:=hsv.1
      rw [hsv1] at h
      split at h
      ·obtain ⟨q,hq,h⟩:=a7 h
       exact ⟨_,_,_,_,h,aaM hop hcal hargs htys (hX.tab _ _ ht) rfl hst hs hv hq⟩
      ·obtain ⟨q,hq,h⟩:=a7 h
       exact ⟨_,_,_,_,h,aln hop hcal hargs htys (hX.tab _ _ ht) rfl hst hs hv hq⟩
     ·cases h
    ·cases h
   ·rename_i f hcal
    obtain ⟨vs,hvs,h⟩:=agM h
    split at h
    ·obtain ⟨q,hq,h⟩:=a7 h
     exact ⟨_,_,_,_,h,acs (caps:=[]) hX hop hcal (.func f) hvs (by simpa using hq)⟩
    ·obtain ⟨q,hq,h⟩:=a7 h
     exact ⟨_,_,_,_,h,ajo (caps:=[]) hX hop hcal (.func f) hvs (by simpa using hq)⟩
    ·obtain ⟨q,hq,h⟩:=a7 h
     exact ⟨_,_,_,_,h,aot (caps:=[]) hX hop hcal (.func f) hvs (by simpa using hq)⟩
    ·rename_i n hk
     obtain ⟨q,hq,h⟩:=a7 h
     exact ⟨_,_,_,_,h,arf hX hop hcal hvs hk hq⟩
   ·rename_i fv _ hcal
    obtain ⟨f,hf,h⟩:=y6 h
    obtain ⟨vs,hvs,h⟩:=agM h
    obtain ⟨p,hp,h⟩:=a7 h
    have hp':f = .func (.func p.1) #[] p.2.toArray:=by
     unfold callee at hp
     split at hp
     ·split at hp
      ·rename_i hz
       cases hp
       rw [Array.eq_empty_of_size_eq_zero hz]
      ·cases hp
     ·cases hp
    rw [hp'] at hf
    split at h
    ·obtain ⟨q,hq,h⟩:=a7 h
     exact ⟨_,_,_,_,h,ajo hX hop hcal hf hvs hq⟩
    ·obtain ⟨q,hq,h⟩:=a7 h
     exact ⟨_,_,_,_,h,acs hX hop hcal hf hvs hq⟩
   ·cases h
 | _=>simp only [hop] at h; cases h
end
end Go.AM

/- A row of operations in the order of the text. -/
namespace Go.AM
set_option linter.unusedSimpArgs false
set_option linter.unusedVariables false
def upd (ρ:Nat->Nat) (k v:Nat):Nat->Nat:=fun j=>if j=k then v else ρ j
structure Entry where
 ι:j8
 hp:Heap
 w:World
 B:Nat
structure Cum (E:Entry) (ι:j8) (hp:Heap) (w:World):Prop where
 ext:U3 E.hp.length E.ι ι
 sz:n7 E.hp hp
 fr:Fr E.ι E.hp E.w w
 own:Own E.ι E.hp E.w ι hp
structure D4 (X:Ctx) (E:Entry) (ι:j8) (ρ:Nat->Nat) (st:St) (a:Act) (w:World):Prop where
 env:∀ t e,look st.env t=some e->ER ι ρ e (a.eval (.tmp t))
 N4:∀ t k d,look st.env t=some (.loc k d)->(look st.loc k).isSome=true
 loc:∀ k cells,look st.loc k=some cells->W6 ι cells w (ρ k)/\E.w.heap.size<=ρ k
 G6:∀ k k' c c',look st.loc k=some c->look st.loc k'=some c'->ρ k=ρ k'->k=k'
 J9:∀ k c b x q,look st.loc k=some c->ι b=some x->j7 st.hp b=some q->x.w5 ≠ ρ k
 rel:Rel X.ng ι st.hp w E.B
 G3:Cum E ι st.hp w
 defers:a.defers=[]
theorem Fr.refl (ι:j8) (hp:Heap) (w:World):Fr ι hp w w:=⟨rfl,rfl,rfl,Nat.le_refl _,fun _ _ _=>rfl⟩
theorem n7.trans {a b c:Heap} (h:n7 a b) (k:n7 b c):n7 a c:=by
 intro i q hq
 obtain ⟨q1,h1,h2⟩:=h i q hq
 obtain ⟨q2,h3,h4⟩:=k i q1 h1
 exact ⟨q2,h3,by rw [h4,h2]⟩
theorem n7.len {a b:Heap} (h:n7 a b):a.length<=b.length:=by
 rcases Nat.lt_or_ge b.length a.length with hl | hl
 ·obtain ⟨q,hq,_⟩:=h b.length a[b.length] (List.getElem?_eq_getElem hl)
  have:=(List.getElem?_eq_some_iff.1 hq).1; omega
 ·exact hl
theorem Cum.next {E:Entry} {ι ι':j8} {hp hp':Heap} {w w':World} (h:Cum E ι hp w) (h1:U3 hp.length ι ι') (h2:n7 hp hp') (h3:Fr ι hp w w') (h4:Own ι hp w ι' hp'):Cum E ι' hp' w':=by
 refine ⟨fun b hb=>?_,h.sz.trans h2,⟨h3.os.trans h.fr.os,h3.tape.trans h.fr.tape,h3.output.trans h.fr.output,Nat.le_trans h.fr.size h3.size,fun j hj hno=>?_⟩,?_⟩
 ·rw [h1 b (Nat.lt_of_lt_of_le hb h.sz.len),h.ext b hb]
 ·rw [<-h.fr.block j hj hno]
  refine h3.block j (Nat.lt_of_lt_of_le hj h.fr.size) fun b x k hb hk hrw he=>?_
  obtain ⟨b0,x0,k0,g1,g2,_,g3,g4⟩:=h.own b x k hb hk (by omega)
  exact hno b0 x0 k0 g1 g2 (g3 hrw) (by omega)
 ·intro b x k hb hk hx
  obtain ⟨b1,x1,k1,g1,g2,g5,g3,g4⟩:=h4 b x k hb hk (Nat.lt_of_lt_of_le hx h.fr.size)
  obtain ⟨b0,x0,k0,f1,f2,f5,f3,f4⟩:=h.own b1 x1 k1 g1 g2 (by omega)
  refine ⟨b0,x0,k0,f1,f2,?_,fun hrw=>f3 (g3 hrw),by omega⟩
  rcases g5 with rfl | g5
  ·exact f5
  ·exact .inr (f3 g5)
theorem U3.sub {ng n:Nat} {ι ι':j8} {hp:Heap} {w:World} {B:Nat} (h:U3 hp.length ι ι') (hR:Rel ng ι hp w B):Sub ι ι':=fun b x hb=>by rw [h b (hR.B2 _ _ hb)]; exact hb
theorem eval_put (a:Act) (dst:Option Tmp) (v:Value) (t:Tmp) (hd:∀ d,dst=some d->d<a.tmps.size):(a.put dst v).eval (.tmp t)=if dst=some t then v else a.eval (.tmp t):=by
 cases dst with
 | none=>simp [Act.put]
 | some d =>
   have:=hd d rfl
   simp only [Act.put,Act.eval,Array.getD_eq_getD_getElem?,Array.getElem?_setIfInBounds]
   by_cases h:d=t
   ·subst h; simp [this]
   ·simp [h]
theorem K7 {env:List (Nat × EV)} {dst:Option Tmp} {e:EV} {t:Nat}:look (acb env dst e) t=if dst=some t then some e else look env t:=by
 cases dst with
 | none=>simp [acb]
 | some d =>
   simp only [acb,j3]
   by_cases h:t=d
   ·subst h; simp
   ·simp [h,Ne.symm h]
theorem W6.mono {ι ι':j8} (hs:Sub ι ι') {cells:List Value} {w:World} {j:Nat} (h:W6 ι cells w j):W6 ι' cells w j:=by
 obtain ⟨cs,el,fr,h1,h2,h3,h4⟩:=h
 exact ⟨cs,el,fr,h1,h2,h3,h4.mono hs⟩
theorem W6.keep {ι:j8} {cells:List Value} {w w':World} {j:Nat} (h:W6 ι cells w j) (he:w'.heap[j]? = w.heap[j]?):W6 ι cells w' j:=by
 obtain ⟨cs,el,fr,h1,h2,h3,h4⟩:=h
 exact ⟨cs,el,fr,by rw [he]; exact h1,h2,h3,h4⟩
theorem W6.lt {ι:j8} {cells:List Value} {w:World} {j:Nat} (h:W6 ι cells w j):j<w.heap.size:=by
 obtain ⟨cs,el,fr,h1,_⟩:=h
 exact (Array.getElem?_eq_some_iff.1 h1).1
theorem amk {X:Ctx} {E:Entry} {ι:j8} {ρ:Nat->Nat} {st:St} {a:Act} {w:World} (h:D4 X E ι ρ st a w) (o:Oper):N7 X ι ρ st a o :=
 ⟨h.rel.D0,h.rel.M6,fun t e _ ht=>h.env t e ht⟩
theorem Rel.keep {ng:Nat} {ι:j8} {hp:Heap} {w w':World} {B:Nat} (hR:Rel ng ι hp w B) (hs:w.heap.size<=w'.heap.size) (h:∀ b x k,ι b=some x->j7 hp b=some k->w'.heap[x.w5]? = w.heap[x.w5]?):Rel ng ι hp w' B :=
 ⟨hR.D0,hR.M6,hR.B2,Nat.le_trans hR.base hs,fun b x k hb hk=>by
  obtain ⟨cs,el,fr,m1,m2⟩:=hR.ok b x k hb hk
  exact ⟨cs,el,fr,by rw [h b x k hb hk]; exact m1,m2⟩,hR.sep⟩
section
variable {P:Program} {X:Ctx} {A:M5} {E:Entry}
theorem adB {o:Oper} {st:St} {e:EV} {ι ι':j8} {ρ:Nat->Nat} {a:Act} {w w':World} {hp':Heap} {v':Value} (h:D4 X E ι ρ st a w) (hd:∀ d,o.dst=some d->d<a.tmps.size) (he:∀ k d,e ≠ .loc k d)
 (h1:U3 st.hp.length ι ι') (h2:n7 st.hp hp') (h3:Rel X.ng ι' hp' w' E.B) (h4:Fr ι st.hp w w') (h5:Own ι st.hp w ι' hp') (h6:ER ι' ρ e v') :
 D4 X E ι' ρ ⟨acb st.env o.dst e,st.loc,hp'⟩ (a.put o.dst v') w':=by
 have hsub:Sub ι ι':=fun b x hb=>by rw [h1 b (h.rel.B2 _ _ hb)]; exact hb
 refine ⟨fun t e' ht=>?_,fun t k d ht=>?_,fun k c hk=>?_,h.G6,fun k c b x q hk hb hq=>?_,h3,h.G3.next h1 h2 h4 h5,by cases hdd:o.dst<;>simp [Act.put,h.defers]⟩
 ·rw [eval_put a o.dst v' t hd]
  simp only [K7] at ht
  split at ht
  ·cases ht; rw [if_pos (by assumption)]; exact h6
  ·rw [if_neg (by assumption)]; exact (h.env t e' ht).mono hsub
 ·simp only [K7] at ht
  split at ht
  ·cases ht; exact absurd rfl (he k d)
  ·exact h.N4 t k d ht
 ·obtain ⟨g1,g2⟩:=h.loc k c hk
  exact ⟨(g1.mono hsub).keep (h4.block _ g1.lt fun b x q hb hq _=>h.J9 k c b x q hk hb hq),g2⟩
 ·intro hx
  have hlt:=(h.loc k c hk).1.lt
  obtain ⟨b0,x0,k0,g1,g2,_,_,g4⟩:=h5 b x q hb hq (by omega)
  exact h.J9 k c b0 x0 k0 hk g1 g2 (by omega)
theorem atB {o:Oper} {st:St} {e:EV} {loc':List (Nat × List Value)} {hp':Heap} {c:A8} {ι:j8} {ρ:Nat->Nat} {a:Act} {w:World} (hs:n9 P X o st e loc' hp' c) (h:D4 X E ι ρ st a w)
 (hd:∀ d,o.dst=some d->d<a.tmps.size) {Nx:Act->World->Prop} {Q:Exit->Act->World->Prop}
 (hN:∀ ι' ρ' v' w',D4 X E ι' ρ' ⟨acb st.env o.dst e,loc',hp'⟩ (a.put o.dst v') w'->Nx (a.put o.dst v') w'):o.wp P a w Nx Q:=by
 have hop:=amk h o
 cases c with
 | P =>
   obtain ⟨rfl,rfl,hl,hrun⟩:=hs
   obtain ⟨v',h1,h2⟩:=hrun ι ρ a w hop
   refine G0 h1 (hN ι ρ v' w ⟨fun t e' ht=>?_,fun t k d ht=>?_,h.loc,h.G6,h.J9,h.rel,h.G3,by cases hdd:o.dst<;>simp [Act.put,h.defers]⟩)
   ·rw [eval_put a o.dst v' t hd]
    simp only [K7] at ht
    split at ht
    ·cases ht; rw [if_pos (by assumption)]; exact h2
    ·rw [if_neg (by assumption)]; exact h.env t e' ht
   ·simp only [K7] at ht
    split at ht
    ·cases ht
     obtain ⟨t',d',h',_⟩:=hl k d rfl
     exact h.N4 _ _ _ h'
    ·exact h.N4 t k d ht
 | L k =>
   obtain ⟨rfl,rfl,v,cells,rfl,hk,hrun⟩:=hs
   obtain ⟨v',h1,h2⟩:=hrun ι ρ a w hop (h.loc k cells hk).1
   exact G0 h1 (hN ι ρ v' w (adB h hd (fun _ _ h=>by cases h) (fun _ _=>rfl) (n7.refl _) h.rel (Fr.refl _ _ _) (fun b x q hb hq _=>⟨b,x,q,hb,hq,Or.inl rfl,id,rfl⟩) (.val h2)))
 | S k =>
   obtain ⟨rfl,rfl,p7,cells,hk,rfl,hlen,hrun⟩:=hs
   obtain ⟨w',h1,h2,e1,e2,e3,e4,e5⟩:=hrun ι ρ a w hop (h.loc k p7 hk).1
   have hkn:E.w.heap.size<=ρ k:=(h.loc k p7 hk).2
   have hl:∀ k' c,look (U1 st.loc k cells) k'=some c->∃ c0,look st.loc k'=some c0/\((k'=k/\c=cells)\/(k' ≠ k/\c=c0)):=by
    intro k' c hc
    rw [O8] at hc
    split at hc
    ·rename_i e; subst e; rw [hk] at hc; cases hc; exact ⟨p7,hk,.inl ⟨rfl,rfl⟩⟩
    ·rename_i e; exact ⟨c,hc,.inr ⟨e,rfl⟩⟩
   refine aeI h1 (hN ι ρ undef w' ⟨fun t e' ht=>?_,fun t k' d ht=>?_,fun k' c hc=>?_,fun k1 k2 c1 c2 g1 g2=>?_,fun k' c b x q hc hb hq=>?_,h.rel.keep (by omega) fun b x q hb hq=>e5 _ (h.J9 k p7 b x q hk hb hq),?_,by cases hdd:o.dst<;>simp [Act.put,h.defers]⟩)
   ·rw [eval_put a o.dst undef t hd]
    simp only [K7] at ht
    split at ht
    ·cases ht; rw [if_pos (by assumption)]; exact .B4
    ·rw [if_neg (by assumption)]; exact h.env t e' ht
   ·simp only [K7] at ht
    split at ht
    ·cases ht
    ·have:=h.N4 t k' d ht
     rw [O8]
     split
     ·rename_i e; subst e; simp [hk]
     ·exact this
   ·obtain ⟨c0,g1,g2⟩:=hl k' c hc
    rcases g2 with ⟨rfl,rfl⟩ | ⟨hne,rfl⟩
    ·exact ⟨h2,hkn⟩
    ·obtain ⟨m1,m2⟩:=h.loc k' c g1
     exact ⟨m1.keep (e5 _ fun he=>hne (h.G6 k' k c p7 g1 hk he)),m2⟩
   ·obtain ⟨c0,f1,_⟩:=hl k1 c1 g1
    obtain ⟨c0',f2,_⟩:=hl k2 c2 g2
    exact h.G6 k1 k2 c0 c0' f1 f2
   ·obtain ⟨c0,f1,_⟩:=hl k' c hc
    exact h.J9 k' c0 b x q f1 hb hq
   ·exact ⟨h.G3.ext,h.G3.sz,⟨e1.trans h.G3.fr.os,e2.trans h.G3.fr.tape,e3.trans h.G3.fr.output,by have:=h.G3.fr.size; omega,fun j hj hno=>by rw [e5 j (by omega)]; exact h.G3.fr.block j hj hno⟩,h.G3.own⟩
 | N k =>
   obtain ⟨rfl,hdst,rfl,hk,cells,rfl,hrun⟩:=hs
   obtain ⟨obj,h1,h2⟩:=hrun ι ρ a w hop
   have hold:∀ j,j<w.heap.size->(w.alloc obj).heap[j]? = w.heap[j]?:=fun j hj=>by
    show (w.heap.push obj)[j]? = _
    rw [Array.getElem?_push,if_neg (by omega)]
   have hρ:∀ k',k' ≠ k->(upd ρ k w.heap.size) k'=ρ k':=fun k' hk'=>if_neg hk'
   have hρk:(upd ρ k w.heap.size) k=w.heap.size:=if_pos rfl
   have hblk:∀ b x q,ι b=some x->j7 st.hp b=some q->x.w5<w.heap.size:=fun b x q hb hq=>by
    obtain ⟨_,_,_,e,_⟩:=h.rel.ok b x q hb hq
    exact (Array.getElem?_eq_some_iff.1 e).1
   have hl:∀ k' c,look ((k,cells)::st.loc) k'=some c->(k'=k/\c=cells)\/(k' ≠ k/\look st.loc k'=some c):=by
    intro k' c hc
    rw [j3] at hc
    split at hc
    ·rename_i e; cases hc; exact .inl ⟨e,rfl⟩
    ·rename_i e; exact .inr ⟨e,hc⟩
   have her:∀ e' v,(∀ d,e' ≠ .loc k d)->ER ι ρ e' v->ER ι (upd ρ k w.heap.size) e' v:=by
    intro e' v hne her
    cases her with
    | val h=>exact .val h
    | loc k' o' =>
      have hkk:k' ≠ k:=by rintro rfl; exact hne o' rfl
      have:=ER.loc (ι:=ι) (ρ:=upd ρ k w.heap.size) k' o'
      rwa [hρ k' hkk] at this
    | B4=>exact .B4
   have hnol:∀ t d,look st.env t ≠ some (.loc k d):=fun t d ht=>by have:=h.N4 t k d ht; rw [hk] at this; cases this
   refine G0 h1 (hN ι (upd ρ k w.heap.size) _ _ ⟨fun t e' ht=>?_,fun t k' d ht=>?_,fun k' c hc=>?_,fun k1 k2 c1 c2 g1 g2 he=>?_,fun k' c b x q hc hb hq=>?_,h.rel.keep (by simp) fun b x q hb hq=>hold _ (hblk b x q hb hq),?_,by cases hdd:o.dst<;>simp [Act.put,h.defers]⟩)
   ·rw [eval_put a o.dst _ t hd]
    simp only [K7] at ht
    split at ht
    ·cases ht; rw [if_pos (by assumption)]
     have:=ER.loc (ι:=ι) (ρ:=upd ρ k w.heap.size) k 0
     rwa [hρk] at this
    ·rw [if_neg (by assumption)]
     exact her e' _ (fun d hd'=>by subst hd'; exact hnol t d ht) (h.env t e' ht)
   ·simp only [K7] at ht
    rw [j3]
    split at ht
    ·cases ht; simp
    ·split
     ·rfl
     ·exact h.N4 t k' d ht
   ·rcases hl k' c hc with ⟨rfl,rfl⟩ | ⟨hne,hc'⟩
    ·rw [hρk]; exact ⟨h2,h.G3.fr.size⟩
    ·rw [hρ k' hne]
     obtain ⟨m1,m2⟩:=h.loc k' c hc'
     exact ⟨m1.keep (hold _ m1.lt),m2⟩
   ·rcases hl k1 c1 g1 with ⟨rfl,rfl⟩ | ⟨hne1,f1⟩<;>rcases hl k2 c2 g2 with ⟨rfl,rfl⟩ | ⟨hne2,f2⟩
    ·rfl
    ·rw [hρk,hρ k2 hne2] at he
     have:=(h.loc k2 c2 f2).1.lt; omega
    ·rw [hρk,hρ k1 hne1] at he
     have:=(h.loc k1 c1 f1).1.lt; omega
    ·rw [hρ k1 hne1,hρ k2 hne2] at he
     exact h.G6 k1 k2 c1 c2 f1 f2 he
   ·rcases hl k' c hc with ⟨rfl,rfl⟩ | ⟨hne,hc'⟩
    ·rw [hρk]; have:=hblk b x q hb hq; omega
    ·rw [hρ k' hne]; exact h.J9 k' c b x q hc' hb hq
   ·exact ⟨h.G3.ext,h.G3.sz,⟨h.G3.fr.os,h.G3.fr.tape,h.G3.fr.output,by have:=h.G3.fr.size; simp; omega,fun j hj hno=>by rw [hold j (Nat.lt_of_lt_of_le hj h.G3.fr.size)]; exact h.G3.fr.block j hj hno⟩,h.G3.own⟩
 | H =>
   obtain ⟨rfl,rfl,v,rfl,hrun⟩:=hs
   exact hrun ι ρ a w E.B Nx Q hop h.rel fun v' w' h1 h2 h3=>hN ι ρ v' w' (adB h hd (fun _ _ h=>by cases h) (fun _ _=>rfl) (n7.refl _) h1 h2 (fun b x q hb hq _=>⟨b,x,q,hb,hq,Or.inl rfl,id,rfl⟩) (.val h3))
 | A =>
   obtain ⟨rfl,⟨new,rfl⟩,v,rfl,hrun⟩:=hs
   exact hrun ι ρ a w E.B Nx Q hop h.rel fun ι' v' w' h1 h2 h3 h4 h5=>hN ι' ρ v' w' (adB h hd (fun _ _ h=>by cases h) h1 ((n7.refl _).append _) h3 h4 (akc h.rel h1 h2) (.val h5))
 | W =>
   obtain ⟨rfl,hsz,hne,hrun⟩:=hs
   exact hrun ι ρ a w E.B Nx Q hop h.rel fun ι' v' w' h1 h2 h3 h4 h5=>hN ι' ρ v' w' (adB h hd hne h1 hsz h2 h3 h4 h5)
theorem D4.known {ι:j8} {ρ:Nat->Nat} {st:St} {a:Act} {w:World} (h:D4 X E ι ρ st a w) {d:Nat} {b:Bool} (hb:a.eval (.tmp d) = .bool b):D4 X E ι ρ ⟨(d,.val (.bool b))::st.env,st.loc,st.hp⟩ a w:=by
 refine ⟨fun t e ht=>?_,fun t k o ht=>?_,h.loc,h.G6,h.J9,h.rel,h.G3,h.defers⟩
 ·simp only [j3] at ht
  split at ht
  ·rename_i e'; cases ht; subst e'; rw [hb]; exact .val (.bool b)
  ·exact h.env t e ht
 ·simp only [j3] at ht
  split at ht
  ·cases ht
  ·exact h.N4 t k o ht
theorem D4.auv {ι:j8} {ρ:Nat->Nat} {st:St} {a:Act} {w:World} (h:D4 X E ι ρ st a w) {dst:Option Tmp} (hd:∀ d,dst=some d->d<a.tmps.size):D4 X E ι ρ ⟨acb st.env dst .B4,st.loc,st.hp⟩ (a.put dst undef) w:=by
 refine ⟨fun t e ht=>?_,fun t k o ht=>?_,h.loc,h.G6,h.J9,h.rel,h.G3,by cases hdd:dst<;>simp [Act.put,h.defers]⟩
 ·rw [eval_put a dst undef t hd]
  simp only [K7] at ht
  split at ht
  ·cases ht; rw [if_pos (by assumption)]; exact .B4
  ·rw [if_neg (by assumption)]; exact h.env t e ht
 ·simp only [K7] at ht
  split at ht
  ·cases ht
  ·exact h.N4 t k o ht
theorem T6 (a:Act) (dst:Option Tmp) (v:Value):(a.put dst v).tmps.size=a.tmps.size:=by cases dst<;>simp [Act.put]
def agf:Value->Option Bool
 | .bool b=>some b
 | _=>none
theorem acp {ops:Array Oper} {a:Act} {j d:Nat} (hd:acC ops j=some d):yielded ops a.tmps j=agf (a.eval (.tmp d)):=by
 unfold acC at hd
 unfold yielded
 rw [hd]
 simp only [Option.bind_some,Act.eval,Array.getD_eq_getD_getElem?]
 cases e:a.tmps[d]? with
 | none=>rfl
 | some u=>cases u<;>rfl
theorem amY {ι:j8} {ρ:Nat->Nat} {st:St} {a:Act} {w:World} {ops:Array Oper} {o:Oper} (h:D4 X E ι ρ st a w) {R:Type} {run pass:List (Nat × EV)->Option R} {r:R}
 (hg:K9 ops o st.env run pass=some r) :
 ∃ env',D4 X E ι ρ ⟨env',st.loc,st.hp⟩ a w/\((Region.wanted o (yielded ops a.tmps)=true/\run env'=some r)\/(Region.wanted o (yielded ops a.tmps)=false/\pass env'=some r)):=by
 unfold K9 at hg
 cases hgd:o.guard with
 | none=>rw [hgd] at hg; exact ⟨st.env,h,.inl ⟨by simp [Region.wanted,hgd],hg⟩⟩
 | some p =>
   obtain ⟨j,want⟩:=p
   rw [hgd] at hg
   simp only at hg
   cases hd:acC ops j with
   | none=>rw [hd] at hg; cases hg
   | some d =>
     rw [hd] at hg
     simp only at hg
     have hw:∀ b,a.eval (.tmp d) = .bool b->Region.wanted o (yielded ops a.tmps)=(b==want):=by
      intro b hb
      simp [Region.wanted,hgd,acp hd,hb,agf]
     have hbv:∀ b,look st.env d=some (.val (.bool b))->a.eval (.tmp d) = .bool b:=by
      intro b hl
      have:=h.env d _ hl
      generalize a.eval (.tmp d)=q at *
      cases this with | val h=>cases h; rfl
     cases hl:look st.env d with
     | none=>rw [hl] at hg; cases hg
     | some e =>
       cases e with
       | loc k o=>rw [hl] at hg; cases hg
       | B4 =>
         rw [hl] at hg
         refine ⟨st.env,h,.inr ⟨?_,hg⟩⟩
         have:=h.env d _ hl
         have hu:a.eval (.tmp d)=undef:=by generalize a.eval (.tmp d)=q at *; cases this; rfl
         simp [Region.wanted,hgd,acp hd,hu,undef,agf]
       | val v =>
         rw [hl] at hg
         simp only at hg
         have hv:∃ b,v = .bool b:=by
          cases v<;>first | exact ⟨_,rfl⟩ | (cases want<;>cases hg)
         obtain ⟨b,rfl⟩:=hv
         have hb:=hbv b hl
         refine ⟨(d,.val (.bool b))::st.env,h.known hb,?_⟩
         rw [hw b hb]
         cases b<;>cases want<;>simp only [O0] at hg<;>first | exact .inl ⟨rfl,hg⟩ | exact .inr ⟨rfl,hg⟩
theorem aeU (hX:XOk P X) {R:Type} {r:R} {ops:Array Oper} {Q:Exit->Act->World->Prop}:∀ {l:List Oper} {cl:List A8} {st:St} {K:List A8->St->Option R} {ι:j8} {ρ:Nat->Nat} {a:Act} {w:World},
 X4 X A ops l cl st K=some r->D4 X E ι ρ st a w->(∀ o ∈ l,∀ d,o.dst=some d->d<a.tmps.size) →
 (∀ cl' st' ι' ρ' a' w',K cl' st'=some r->D4 X E ι' ρ' st' a' w'->a'.tmps.size=a.tmps.size->Q .normal a' w')->wpList P ops Q l a w
 | [],cl,st,K,ι,ρ,a,w,hr,h,_,hQ=>hQ cl st ι ρ a w hr h rfl
 | o::os,cl,st,K,ι,ρ,a,w,hr,h,hd,hQ=>by
   simp only [X4] at hr
   obtain ⟨env',h',hg⟩:=amY h hr
   unfold wpList
   rcases hg with ⟨hw,hg⟩ | ⟨hw,hg⟩
   ·rw [if_pos hw]
    obtain ⟨e,loc',hp',c,hk,hs⟩:=afO hX hg
    refine .inl (atB hs h' (hd o (by simp)) fun ι' ρ' v' w' h2=>?_)
    exact aeU hX hk h2 (fun o' ho' d hd'=>by rw [T6]; exact hd o' (by simp [ho']) d hd') fun cl' st' ι2 ρ2 a2 w2 k1 k2 k3=>hQ cl' st' ι2 ρ2 a2 w2 k1 k2 (by rw [k3,T6])
   ·rw [if_neg (by simp [hw])]
    exact aeU hX hg (h'.auv (hd o (by simp))) (fun o' ho' d hd'=>by rw [T6]; exact hd o' (by simp [ho']) d hd') fun cl' st' ι2 ρ2 a2 w2 k1 k2 k3=>hQ cl' st' ι2 ρ2 a2 w2 k1 k2 (by rw [k3,T6])
end
end Go.AM

/- Code: sequences, conditions, blocks, loops, joins. -/
namespace Go.AM
set_option linter.unusedSimpArgs false
set_option linter.unusedVariables false
def X1 (kp:E9) (vs:List Value) (hp:Heap):St:=⟨U0 kp.ls++V8 0 kp.vs vs,J2 kp.vs.length kp.cs vs,hp⟩
theorem abp {R:Type} {kp:E9} {vs:List Value} {hp:Heap} {K:St->Option R} {r:R} (h:Y2 kp vs hp K=some r):K (X1 kp vs hp)=some r:=by
 unfold Y2 at h
 split at h
 ·split at h
  ·exact h
  ·cases h
 ·cases h
structure Part (st' st:St):Prop where
 env:∀ t e,look st'.env t=some e->look st.env t=some e
 loc:∀ k c,look st'.loc k=some c->look st.loc k=some c
 N4:∀ t k d,look st'.env t=some (.loc k d)->(look st'.loc k).isSome=true
 hp:st'.hp=st.hp
theorem D4.part {X:Ctx} {E:Entry} {ι:j8} {ρ:Nat->Nat} {st st':St} {a:Act} {w:World} (h:D4 X E ι ρ st a w) (p:Part st' st):D4 X E ι ρ st' a w:=by
 refine ⟨fun t e ht=>h.env t e (p.env t e ht),p.N4,fun k c hk=>h.loc k c (p.loc k c hk),fun k k' c c' h1 h2=>h.G6 k k' c c' (p.loc _ _ h1) (p.loc _ _ h2),fun k c b x q h1 h2 h3=>?_,by rw [p.hp]; exact h.rel,by rw [p.hp]; exact h.G3,h.defers⟩
 rw [p.hp] at h3
 exact h.J9 k c b x q (p.loc _ _ h1) h2 h3
theorem adg {R:Type} {env:List (Nat × EV)} {r:R}:∀ {ss:List Nat} {K:List Value->Option R},aa7 env ss K=some r->∃ vs,K vs=some r/\vs.length=ss.length/\∀ (i s:Nat),ss[i]? = some s->∃ v,vs[i]? = some v/\look env s=some (.val v)
 | [],K,h=>⟨[],h,rfl,fun i s e=>by simp at e⟩
 | s::ss,K,h=>by
   simp only [aa7] at h
   cases e:look env s with
   | none=>rw [e] at h; cases h
   | some v =>
     cases v with
     | val v =>
       rw [e] at h
       obtain ⟨vs,h1,h2,h3⟩:=adg h
       refine ⟨v::vs,h1,by simp [h2],fun i t ht=>?_⟩
       cases i with
       | zero=>simp at ht; subst ht; exact ⟨v,by simp,e⟩
       | succ i=>simp at ht; simpa using h3 i t ht
     | loc k o=>rw [e] at h; cases h
     | B4=>rw [e] at h; cases h
theorem afS {R:Type} {loc:List (Nat × List Value)} {r:R}:∀ {ks:List (Nat × Nat)} {K:List Value->Option R},csK loc ks K=some r->∃ vs,K vs=some r/\vs.length=total ks ∧
 ∀ (pre:List Value) (k:Nat) (c:List Value),look (J2 pre.length ks (pre++vs)) k=some c->look loc k=some c
 | [],K,h=>⟨[],h,rfl,fun pre k c e=>by simp [J2,look] at e⟩
 | (k,n)::ks,K,h=>by
   simp only [csK] at h
   cases e:look loc k with
   | none=>rw [e] at h; cases h
   | some cs =>
     rw [e] at h
     simp only at h
     cases hb:Nat.beq cs.length n with
     | false=>rw [hb] at h; cases h
     | true =>
       rw [hb] at h
       have hn:=Nat.eq_of_beq_eq_true hb
       obtain ⟨vs,h1,h2,h3⟩:=afS h
       refine ⟨cs++vs,h1,by simp [total,hn,h2],fun pre j c ej=>?_⟩
       simp only [J2,j3] at ej
       split at ej
       ·rename_i e'
        subst e'
        have ht:aaz pre.length n (pre++(cs++vs))=cs:=by
         apply List.ext_getElem?
         intro i
         by_cases hi:i<n
         ·rw [aij _ _ _ _ hi,List.getD_eq_getElem?_getD,List.getElem?_append_right (by omega),List.getElem?_append_left (by omega)]
          have:pre.length+i-pre.length=i:=by omega
          rw [this,List.getElem?_eq_getElem (by omega)]; rfl
         ·rw [List.getElem?_eq_none (by rw [ahX]; omega),List.getElem?_eq_none (by omega)]
        rw [ht] at ej
        rw [e,ej]
       ·have:=h3 (pre++cs) j c
        rw [List.length_append,hn,List.append_assoc] at this
        exact this ej
theorem anu {env:List (Nat × EV)}:∀ {ls:List (Nat × Nat × Nat)},ajO env ls=true->∀ t e,look (U0 ls) t=some e->look env t=some e
 | [],_,t,e,h=>by simp [U0,look] at h
 | (s,k,o)::ls,hok,t,e,h=>by
   simp only [ajO] at hok
   cases hl:look env s with
   | none=>rw [hl] at hok; cases hok
   | some e' =>
     cases e' with
     | loc k' o' =>
       rw [hl] at hok
       simp only [Bool.and_eq_true] at hok
       obtain ⟨⟨h1,h2⟩,h3⟩:=hok
       have e1:=Nat.eq_of_beq_eq_true h1
       have e2:=Nat.eq_of_beq_eq_true h2
       subst e1 e2
       simp only [U0,j3] at h
       split at h
       ·rename_i e; subst e; rw [hl]; exact h
       ·exact anu h3 t e h
     | val v=>rw [hl] at hok; cases hok
     | B4=>rw [hl] at hok; cases hok
theorem adU {α:Type}:∀ {l m:List (Nat × α)} {t:Nat} {e:α},look (l++m) t=some e->look l t=some e\/(look l t=none/\look m t=some e)
 | [],m,t,e,h => .inr ⟨rfl,h⟩
 | (k,v)::l,m,t,e,h=>by
   simp only [List.cons_append,j3] at h ⊢
   split at h
   ·rename_i hk; rw [if_pos hk]; exact .inl h
   ·rename_i hk; rw [if_neg hk]; exact adU h
theorem akv:∀ {ls:List (Nat × Nat × Nat)} {t:Nat} {e:EV},look (U0 ls) t=some e->∃ k o,e = .loc k o/\(t,k,o) ∈ ls
 | [],t,e,h=>by simp [U0,look] at h
 | (s,k,o)::ls,t,e,h=>by
   simp only [U0,j3] at h
   split at h
   ·rename_i hs; subst hs; cases h; exact ⟨k,o,rfl,by simp⟩
   ·obtain ⟨k',o',h1,h2⟩:=akv h
    exact ⟨k',o',h1,by simp [h2]⟩
theorem aeW:∀ {ss:List Nat} {vs:List Value} {i t:Nat} {e:EV},look (V8 i ss vs) t=some e->∃ j,ss[j]? = some t/\e = .val (vs.getD (i+j) undef)
 | [],vs,i,t,e,h=>by simp [V8,look] at h
 | s::ss,vs,i,t,e,h=>by
   simp only [V8,j3] at h
   split at h
   ·rename_i hs; subst hs; cases h; exact ⟨0,by simp,rfl⟩
   ·obtain ⟨j,h1,h2⟩:=aeW h
    exact ⟨j+1,by simpa using h1,by rw [h2]; congr 2; omega⟩
theorem alq:∀ {ls:List (Nat × Nat × Nat)} {cs:List (Nat × Nat)},afA ls cs=true->∀ s k o,(s,k,o) ∈ ls->∃ n,look cs k=some n
 | [],cs,_,s,k,o,h=>by cases h
 | (s',k',o')::ls,cs,hh,s,k,o,h=>by
   simp only [afA,Bool.and_eq_true] at hh
   rcases List.mem_cons.1 h with h | h
   ·obtain ⟨rfl,rfl,rfl⟩:s=s'/\k=k'/\o=o':=by simpa using h
    cases e:look cs k with
    | none=>rw [e] at hh; exact absurd hh.1 (by simp)
    | some n=>exact ⟨n,rfl⟩
   ·exact alq hh.2 s k o h
theorem ajs:∀ {cs:List (Nat × Nat)} {vs:List Value} {i k n:Nat},look cs k=some n->(look (J2 i cs vs) k).isSome=true
 | [],vs,i,k,n,h=>by simp [look] at h
 | (k',n')::cs,vs,i,k,n,h=>by
   simp only [J2,j3] at h ⊢
   split
   ·rfl
   ·rename_i hk
    rw [if_neg hk] at h
    exact ajs h
theorem aeL {R:Type} {kp:E9} {st:St} {K:List Value->Heap->Option R} {r:R} (h:L4 kp st K=some r) (hk:afA kp.ls kp.cs=true):∃ vs,K vs st.hp=some r/\Part (X1 kp vs st.hp) st:=by
 unfold L4 at h
 split at h
 ·rename_i hls
  obtain ⟨vs,h,hvl,hv⟩:=adg h
  obtain ⟨cs,h,hcl,hc⟩:=afS h
  refine ⟨vs++cs,h,⟨fun t e he=>?_,fun k c hkc=>?_,fun t k d he=>?_,rfl⟩⟩
  ·rcases adU he with he | ⟨_,he⟩
   ·exact anu hls t e he
   ·obtain ⟨j,h1,rfl⟩:=aeW he
    obtain ⟨v,h2,h3⟩:=hv j t h1
    have hj:j<vs.length:=(List.getElem?_eq_some_iff.1 h2).1
    rw [h3,Nat.zero_add,List.getD_eq_getElem?_getD,List.getElem?_append_left hj,h2]; rfl
  ·have:=hc vs k c
   rw [hvl] at this
   exact this hkc
  ·rcases adU he with he | ⟨_,he⟩
   ·obtain ⟨k',o',h1,h2⟩:=akv he
    cases h1
    obtain ⟨n,hn⟩:=alq hk _ _ _ h2
    exact ajs hn
   ·obtain ⟨j,_,h2⟩:=aeW he
    cases h2
 ·cases h
theorem ah1 {kp:E9} (h:abS kp=true):afA kp.ls kp.cs=true:=by
 unfold abS at h
 simp only [Bool.and_eq_true] at h
 exact h.1
theorem ard {x e:Exit} (h:alb x e=true):x=e:=by
 unfold alb at h
 split at h
 ·rfl
 ·rfl
 ·rw [Nat.eq_of_beq_eq_true h]
 ·cases h
inductive LpN (B:List Value->Heap->Option (Option Nat × List Value × Heap)):Nat->List Value->Heap->(Nat × List Value × Heap)->Prop
 | stop {vs:List Value} {hp:Heap} {m:Nat} {vs':List Value} {hp':Heap}:B vs hp=some (some m,vs',hp')->LpN B 0 vs hp (m,vs',hp')
 | more {n:Nat} {vs:List Value} {hp:Heap} {vs1:List Value} {hp1:Heap} {res:Nat × List Value × Heap}:B vs hp=some (none,vs1,hp1)->LpN B n vs1 hp1 res->LpN B (n+1) vs hp res
def ajP (lp:(List Value->Heap->Option (Option Nat × List Value × Heap))->List Value->Heap->Option (Nat × List Value × Heap)):Prop :=
 ∀ B vs hp res,lp B vs hp=some res->∃ n,LpN B n vs hp res
theorem amB {e:Exit} {st:St}:∀ {outs:List (Exit × E9)} {S:Type} {F:Nat->List Value->Heap->Option S} {s:S},
 V1 outs e st F=some s->∃ n vs,F n vs st.hp=some s/\∀ {R:Type} {K:Exit->St->Option R} {r:R},inK outs n vs st.hp K=some r->∃ st',Part st' st/\K e st'=some r
 | [],_,_,_,h=>by cases h
 | (x,kp)::l,S,F,s,h=>by
   simp only [V1] at h
   split at h
   ·rename_i hx
    have:=ard hx
    subst this
    by_cases hk:afA kp.ls kp.cs=true
    ·obtain ⟨vs,h1,h2⟩:=aeL h hk
     exact ⟨0,vs,h1,fun hin=>⟨_,h2,abp hin⟩⟩
    ·unfold L4 at h
     split at h
     ·obtain ⟨vs,h,_⟩:=adg h
      obtain ⟨cs,h,_⟩:=afS h
      refine ⟨0,vs++cs,h,fun hin=>?_⟩
      simp only [inK,Y2] at hin
      split at hin
      ·rename_i hok; exact absurd (ah1 hok) hk
      ·cases hin
     ·cases h
   ·obtain ⟨n,vs,h1,h2⟩:=amB h
    exact ⟨n+1,vs,h1,fun hin=>h2 hin⟩
def ajN (P:Program) (X:Ctx):Prop:=∀ (A:M5) (E:Entry) (R:Type) (r:R) (id:Nat) (ops:Array Oper) (st:St) (K:List A8->St->Option R) (ι:j8) (ρ:Nat->Nat) (a:Act) (w:World) (Q:Exit->Act->World->Prop),
    (X4 X A ops ops.toList [] st fun cl st=>match acK ops cl.reverse with | true=>K cl st | false=>none)=some r->D4 X E ι ρ st a w->(∀ o ∈ ops.toList,∀ d,o.dst=some d->d<a.tmps.size) →
    (∀ cl' st' ι' ρ' a' w',K cl' st'=some r->D4 X E ι' ρ' st' a' w'->a'.tmps.size=a.tmps.size->Q .normal a' w')->(Code.region id ops true).wp P Q a w
theorem amI {n:Nat}:∀ {l:List Oper},aon n l=true->∀ o ∈ l,∀ d,o.dst=some d->d<n
 | [],_,o,h,_,_=>by cases h
 | o'::l,hh,o,h,d,hd=>by
   simp only [aon,Bool.and_eq_true] at hh
   rcases List.mem_cons.1 h with rfl | h
   ·rw [hd] at hh
    exact Nat.le_of_ble_eq_true hh.1
   ·exact amI hh.2 o h d hd
theorem exists_least {p:Nat->Prop}:∀ n,p n->∃ m,p m/\∀ k,p k->m<=k:=by
 intro n
 induction n using Nat.strongRecOn with
 | _ n ih =>
   intro h
   by_cases hs:∃ k,k<n/\p k
   ·obtain ⟨k,hk,hp⟩:=hs; exact ih k hk hp
   ·exact ⟨n,h,fun k hp=>Nat.le_of_not_lt fun hk=>hs ⟨k,hk,hp⟩⟩
noncomputable def least (p:Nat->Prop):Nat := @dite _ (∃ m,p m/\∀ k,p k->m<=k) (Classical.propDecidable _) (fun h=>Classical.choose h) (fun _=>0)
theorem ao2 {p:Nat->Prop} (h:∃ n,p n):p (least p):=by
 obtain ⟨n,h⟩:=h
 have hl:=exists_least n h
 unfold least; rw [dif_pos hl]; exact (Classical.choose_spec hl).1
theorem least_le {p:Nat->Prop} {n:Nat} (h:p n):least p<=n:=by
 have hl:=exists_least n h
 unfold least; rw [dif_pos hl]; exact (Classical.choose_spec hl).2 n h
noncomputable def J4 (X:Ctx) (A:M5) (li:aiv) (x:Code) (vs:List Value) (hp:Heap):Option (Option Nat × List Value × Heap) :=
 Y2 li.ks vs hp fun st=>w7 X A x st fun e st=>match e with
  | .normal=>L4 li.ks st fun vs hp=>some (none,vs,hp)
  | e=>V1 li.outs e st fun n vs hp=>some (some n,vs,hp)
theorem LpN.ok {X:Ctx} {A:M5} {li:aiv} {x:Code} {m:Nat} {vs:List Value} {hp:Heap} {res:Nat × List Value × Heap} (h:LpN (J4 X A li x) m vs hp res):abS li.ks=true:=by
 have:∀ r,J4 X A li x vs hp=some r->abS li.ks=true:=by
  intro r hr
  unfold J4 Y2 at hr
  split at hr
  ·assumption
  ·cases hr
 cases h with
 | stop h=>exact this _ h
 | more h _=>exact this _ h
theorem aoo {P:Program} {X:Ctx} {A:M5} {E:Entry} {li:aiv} {x:Code} {sz:Nat}
 (ih:∀ {r':Option Nat × List Value × Heap} {st:St} {K:Exit->St->Option (Option Nat × List Value × Heap)} {ι:j8} {ρ:Nat->Nat} {a:Act} {w:World} {Q:Exit->Act->World->Prop},
  w7 X A x st K=some r'->D4 X E ι ρ st a w->a.tmps.size=sz->(∀ e st' ι' ρ' a' w',K e st'=some r'->D4 X E ι' ρ' st' a' w'->a'.tmps.size=sz->Q e a' w')->x.wp P Q a w)
 {m:Nat} {vs:List Value} {hp:Heap} {res:Nat × List Value × Heap} (hm:LpN (J4 X A li x) m vs hp res) {R:Type} {K:Exit->St->Option R} {r:R} {Q:Exit->Act->World->Prop}
 (hin:inK li.outs res.1 res.2.1 res.2.2 K=some r) {ι:j8} {ρ:Nat->Nat} {a:Act} {w:World} (h:D4 X E ι ρ (X1 li.ks vs hp) a w) (hsz:a.tmps.size=sz)
 (hQ:∀ e st' ι' ρ' a' w',K e st'=some r->D4 X E ι' ρ' st' a' w'->a'.tmps.size=sz->Q e a' w'):(Code.loop x).wp P Q a w:=by
 have hk:=ah1 hm.ok
 refine wp_loop (fun a w=>∃ n,∃ vs hp ι ρ,LpN (J4 X A li x) n vs hp res/\D4 X E ι ρ (X1 li.ks vs hp) a w/\a.tmps.size=sz)
  (fun a w=>least fun n=>∃ vs hp ι ρ,LpN (J4 X A li x) n vs hp res/\D4 X E ι ρ (X1 li.ks vs hp) a w/\a.tmps.size=sz) ⟨m,vs,hp,ι,ρ,hm,h,hsz⟩ ?_
 intro a w hI
 have hleast:=ao2 hI
 generalize (least fun n=>∃ vs hp ι ρ,LpN (J4 X A li x) n vs hp res/\D4 X E ι ρ (X1 li.ks vs hp) a w/\a.tmps.size=sz)=n0 at hleast ⊢
 obtain ⟨vs,hp,ι,ρ,hL,h,hsz⟩:=hleast
 have hround:∃ r',J4 X A li x vs hp=some r'/\((∃ m vs' hp',r'=(some m,vs',hp')/\res=(m,vs',hp'))\/(∃ n1 vs1 hp1,r'=(none,vs1,hp1)/\n0=n1+1/\LpN (J4 X A li x) n1 vs1 hp1 res)):=by
  cases hL with
  | stop h=>exact ⟨_,h,.inl ⟨_,_,_,rfl,rfl⟩⟩
  | more h h'=>exact ⟨_,h,.inr ⟨_,_,_,rfl,rfl,h'⟩⟩
 obtain ⟨r',hr',hcase⟩:=hround
 refine ih (abp hr') h hsz fun e st' ι' ρ' a' w' k1 k2 k3=>?_
 by_cases he:e = .normal
 ·subst he
  obtain ⟨vs2,h1,hp2⟩:=aeL k1 hk
  cases h1
  rcases hcase with ⟨m,vs',hp',h1,_⟩ | ⟨n1,vs1,hp1,h1,h2,h3⟩
  ·cases h1
  ·cases h1
   have hJ:∃ vs hp ι ρ,LpN (J4 X A li x) n1 vs hp res/\D4 X E ι ρ (X1 li.ks vs hp) a' w'/\a'.tmps.size=sz:=⟨vs2,st'.hp,ι',ρ',h3,k2.part hp2,k3⟩
   refine ⟨⟨n1,hJ⟩,?_⟩
   have:=least_le (p:=fun n=>∃ vs hp ι ρ,LpN (J4 X A li x) n vs hp res/\D4 X E ι ρ (X1 li.ks vs hp) a' w'/\a'.tmps.size=sz) hJ
   omega
 ·have k1':(V1 li.outs e st' fun n vs hp=>some (some n,vs,hp))=some r':=by
   cases e<;>first | exact absurd rfl he | exact k1
  obtain ⟨n,vs2,h1,h2⟩:=amB k1'
  cases h1
  rcases hcase with ⟨m,vs',hp',h1,h3⟩ | ⟨n1,vs1,hp1,h1,_⟩
  ·cases h1
   subst h3
   obtain ⟨st2,hp2,hk2⟩:=h2 hin
   have:=hQ e st2 ι' ρ' a' w' hk2 (k2.part hp2) k3
   cases e<;>first | exact absurd rfl he | exact this
  ·cases h1
theorem M7 {P:Program} {X:Ctx} (hX:XOk P X) (hl:ajP X.lp) (hD:ajN P X) {A:M5} {E:Entry}:∀ (c:Code) {R:Type} {r:R} {st:St} {K:Exit->St->Option R} {ι:j8} {ρ:Nat->Nat} {a:Act} {w:World} {Q:Exit->Act->World->Prop} {n:Nat},
 w7 X A c st K=some r->D4 X E ι ρ st a w->ac0 n c=true->n<=a.tmps.size →
 (∀ e st' ι' ρ' a' w',K e st'=some r->D4 X E ι' ρ' st' a' w'->a'.tmps.size=a.tmps.size->Q e a' w')->c.wp P Q a w
 | .skip,R,r,st,K,ι,ρ,a,w,Q,n,hr,h,hd,hn,hQ=>wp_skip (hQ _ _ _ _ _ _ hr h rfl)
 | .exit id,R,r,st,K,ι,ρ,a,w,Q,n,hr,h,hd,hn,hQ=>wp_exit (hQ _ _ _ _ _ _ hr h rfl)
 | .ret,R,r,st,K,ι,ρ,a,w,Q,n,hr,h,hd,hn,hQ=>wp_ret (hQ _ _ _ _ _ _ hr h rfl)
 | .region id ops draw,R,r,st,K,ι,ρ,a,w,Q,n,hr,h,hd,hn,hQ=>by
   have hdst:∀ o ∈ ops.toList,∀ d,o.dst=some d->d<a.tmps.size:=fun o ho d hd'=>Nat.lt_of_lt_of_le (amI hd o ho d hd') hn
   cases draw with
   | false =>
     simp only [w7] at hr
     exact wp_region_list (aeU hX hr h hdst fun cl' st' ι' ρ' a' w' k1 k2 k3=>hQ _ _ _ _ _ _ k1 k2 k3)
   | true =>
     simp only [w7] at hr
     exact hD A E R r id ops st (fun _ st=>K .normal st) ι ρ a w Q hr h hdst fun cl' st' ι' ρ' a' w' k1 k2 k3=>hQ _ _ _ _ _ _ k1 k2 k3
 | .cond c x y,R,r,st,K,ι,ρ,a,w,Q,n,hr,h,hd,hn,hQ=>by
   simp only [w7] at hr
   simp only [ac0,Bool.and_eq_true] at hd
   obtain ⟨v,hv,hr⟩:=y6 hr
   have hev:VR ι v (a.eval c):=by
    have:=hv.A1 (ρ:=ρ) (a:=a) (o:=⟨none,.move c,0,"",#[],none⟩) (amk h _) (by simp [Op.operands])
    exact this
   have key:∀ b,v = .bool b->a.eval c = .bool b:=by
    rintro b rfl
    generalize a.eval c=q at *
    cases hev; rfl
   have hb:∃ b,v = .bool b/\(if b then w7 X A x st K else w7 X A y st K)=some r:=by
    ·unfold O0 at hr
     split at hr
     ·exact ⟨true,rfl,hr⟩
     ·exact ⟨false,rfl,hr⟩
     ·cases hr
   obtain ⟨b,rfl,hr⟩:=hb
   cases b with
   | true=>exact wp_cond_true (key _ rfl) (M7 hX hl hD x hr h hd.1 hn hQ)
   | false=>exact wp_cond_false (key _ rfl) (M7 hX hl hD y hr h hd.2 hn hQ)
 | .block id x,R,r,st,K,ι,ρ,a,w,Q,n,hr,h,hd,hn,hQ=>by
   simp only [w7] at hr
   refine wp_block (M7 hX hl hD x hr h hd hn fun e st' ι' ρ' a' w' k1 k2 k3=>?_)
   cases e with
   | exit i =>
     simp only at k1
     simp only [Exit.inBlock]
     split at k1
     ·rename_i hb; rw [if_pos (Nat.eq_of_beq_eq_true hb)]; exact hQ _ _ _ _ _ _ k1 k2 k3
     ·rename_i hb
      rw [if_neg (by rintro rfl; rw [Nat.beq_refl] at hb; cases hb)]
      exact hQ _ _ _ _ _ _ k1 k2 k3
   | _=>exact hQ _ _ _ _ _ _ k1 k2 k3
 | .seq x y,R,r,st,K,ι,ρ,a,w,Q,n,hr,h,hd,hn,hQ=>by
   simp only [w7] at hr
   simp only [ac0,Bool.and_eq_true] at hd
   refine wp_seq ?_
   have behind:∀ e st' ι' ρ' a' w',(match e with | .normal=>w7 X A y st' K | e=>K e st')=some r->D4 X E ι' ρ' st' a' w'->a'.tmps.size=a.tmps.size->Exit.then (y.wp P Q) Q e a' w':=by
    intro e st' ι' ρ' a' w' k1 k2 k3
    cases e with
    | normal=>exact M7 hX hl hD y k1 k2 hd.2 (by omega) fun e st2 ι2 ρ2 a2 w2 m1 m2 m3=>hQ _ _ _ _ _ _ m1 m2 (by omega)
    | _=>exact hQ _ _ _ _ _ _ k1 k2 k3
   split at hr
   ·exact M7 hX hl hD x hr h hd.1 hn behind
   ·rename_i outs _
    obtain ⟨s,hs,hr⟩:=a7 hr
    refine M7 hX hl hD x hs h hd.1 hn fun e st' ι' ρ' a' w' k1 k2 k3=>?_
    obtain ⟨m,vs,h1,h2⟩:=amB k1
    cases h1
    obtain ⟨st2,hp,hk⟩:=h2 hr
    exact behind e st2 ι' ρ' a' w' hk (k2.part hp) k3
 | .loop x,R,r,st,K,ι,ρ,a,w,Q,n,hr,h,hd,hn,hQ=>by
   simp only [w7] at hr
   split at hr
   ·cases hr
   ·rename_i li hli
    have hok:abS li.ks=true:=by
     have hr':=hr
     unfold L4 at hr'
     split at hr'
     ·obtain ⟨vs,hr',_⟩:=adg hr'
      obtain ⟨cs,hr',_⟩:=afS hr'
      obtain ⟨res,hres,_⟩:=a7 hr'
      obtain ⟨m,hm⟩:=hl _ _ _ _ hres
      exact LpN.ok hm
     ·cases hr'
    obtain ⟨vs,hr,hp⟩:=aeL hr (ah1 hok)
    obtain ⟨res,hres,hr⟩:=a7 hr
    obtain ⟨m,hm⟩:=hl _ _ _ _ hres
    exact aoo (sz:=a.tmps.size) (fun {r'} {st} {K} {ι} {ρ} {a'} {w} {Q} h1 h2 h3 h4=>M7 hX hl hD x h1 h2 hd (by omega) fun e st' ι' ρ' a2 w' k1 k2 k3=>h4 e st' ι' ρ' a2 w' k1 k2 (by omega)) hm hr (h.part hp) rfl hQ
 | .rangeFunc ..,R,r,st,K,ι,ρ,a,w,Q,n,hr,h,hd,hn,hQ=>by cases hr
 | .scope ..,R,r,st,K,ι,ρ,a,w,Q,n,hr,h,hd,hn,hQ=>by cases hr
 | .label ..,R,r,st,K,ι,ρ,a,w,Q,n,hr,h,hd,hn,hQ=>by cases hr
 | .goto ..,R,r,st,K,ι,ρ,a,w,Q,n,hr,h,hd,hn,hQ=>by cases hr
 | .refuse ..,R,r,st,K,ι,ρ,a,w,Q,n,hr,h,hd,hn,hQ=>by cases hr
end Go.AM

/- Calls: what a function's body comes to. -/
namespace Go.AM
set_option linter.unusedSimpArgs false
set_option linter.unusedVariables false
theorem n9.sz {P:Program} {X:Ctx} {o:Oper} {st:St} {e:EV} {loc':List (Nat × List Value)} {hp':Heap} {c:A8} (h:n9 P X o st e loc' hp' c):n7 st.hp hp':=by
 cases c with
 | P=>obtain ⟨_,rfl,_⟩:=h; exact n7.refl _
 | L k=>obtain ⟨_,rfl,_⟩:=h; exact n7.refl _
 | S k=>obtain ⟨_,rfl,_⟩:=h; exact n7.refl _
 | N k=>obtain ⟨_,_,rfl,_⟩:=h; exact n7.refl _
 | H=>obtain ⟨_,rfl,_⟩:=h; exact n7.refl _
 | A=>obtain ⟨_,⟨new,rfl⟩,_⟩:=h; exact (n7.refl _).append _
 | W=>exact h.2.1
theorem arZ {R:Type} {ops:Array Oper} {o:Oper} {env:List (Nat × EV)} {run pass:List (Nat × EV)->Option R} {r:R} (h:K9 ops o env run pass=some r):∃ env',run env'=some r\/pass env'=some r:=by
 have hif:∀ {v:Value} {x y:Option R},O0 v x y=some r->x=some r\/y=some r:=by
  intro v x y h
  unfold O0 at h
  split at h
  ·exact .inl h
  ·exact .inr h
  ·cases h
 unfold K9 at h
 split at h
 ·exact ⟨_,.inl h⟩
 ·split at h
  ·cases h
  ·split at h
   ·split at h
    ·rcases hif h with h | h
     ·exact ⟨_,.inl h⟩
     ·exact ⟨_,.inr h⟩
    ·rcases hif h with h | h
     ·exact ⟨_,.inr h⟩
     ·exact ⟨_,.inl h⟩
   ·exact ⟨_,.inr h⟩
   ·cases h
theorem agT {P:Program} {X:Ctx} {A:M5} (hX:XOk P X) {R:Type} {r:R} {ops:Array Oper}:∀ {l:List Oper} {cl:List A8} {st:St} {K:List A8->St->Option R},X4 X A ops l cl st K=some r →
 ∃ cl' st',K cl' st'=some r/\n7 st.hp st'.hp
 | [],cl,st,K,h=>⟨cl,st,h,n7.refl _⟩
 | o::os,cl,st,K,h=>by
   simp only [X4] at h
   obtain ⟨env',h | h⟩:=arZ h
   ·obtain ⟨e,loc',hp',c,hk,hs⟩:=afO hX h
    obtain ⟨cl',st',h1,h2⟩:=agT hX hk
    exact ⟨cl',st',h1,hs.sz.trans h2⟩
   ·obtain ⟨cl',st',h1,h2⟩:=agT hX h
    exact ⟨cl',st',h1,h2⟩
theorem ais {R:Type} {kp:E9} {st:St} {K:List Value->Heap->Option R} {r:R} (h:L4 kp st K=some r):∃ vs,K vs st.hp=some r:=by
 unfold L4 at h
 split at h
 ·obtain ⟨vs,h,_⟩:=adg h
  obtain ⟨cs,h,_⟩:=afS h
  exact ⟨_,h⟩
 ·cases h
theorem ajL {R:Type} {e:Exit} {st:St} {r:R}:∀ {outs:List (Exit × E9)} {K:Nat->List Value->Heap->Option R},V1 outs e st K=some r->∃ n vs,K n vs st.hp=some r
 | [],K,h=>by cases h
 | (x,kp)::l,K,h=>by
   simp only [V1] at h
   split at h
   ·obtain ⟨vs,h⟩:=ais h; exact ⟨0,vs,h⟩
   ·obtain ⟨n,vs,h⟩:=ajL h; exact ⟨n+1,vs,h⟩
theorem amd {R:Type} {vs:List Value} {hp:Heap} {K:Exit->St->Option R} {r:R}:∀ {outs:List (Exit × E9)} {n:Nat},inK outs n vs hp K=some r->∃ e st,K e st=some r/\st.hp=hp
 | [],_,h=>by cases h
 | (x,kp)::l,0,h=>⟨x,_,abp h,rfl⟩
 | (x,kp)::l,n+1,h=>amd (outs:=l) (n:=n) h
theorem X2 {P:Program} {X:Ctx} (hX:XOk P X) (hl:ajP X.lp) {A:M5}:∀ (c:Code) {R:Type} {r:R} {st:St} {K:Exit->St->Option R},w7 X A c st K=some r->∃ e st',K e st'=some r/\n7 st.hp st'.hp
 | .skip,R,r,st,K,h=>⟨_,_,h,n7.refl _⟩
 | .exit id,R,r,st,K,h=>⟨_,_,h,n7.refl _⟩
 | .ret,R,r,st,K,h=>⟨_,_,h,n7.refl _⟩
 | .region id ops draw,R,r,st,K,h=>by
   cases draw with
   | false =>
     simp only [w7] at h
     obtain ⟨cl',st',h1,h2⟩:=agT hX h
     exact ⟨_,st',h1,h2⟩
   | true =>
     simp only [w7] at h
     obtain ⟨cl',st',h1,h2⟩:=agT hX h
     split at h1
     ·exact ⟨_,st',h1,h2⟩
     ·cases h1
 | .cond c x y,R,r,st,K,h=>by
   simp only [w7] at h
   obtain ⟨v,hv,h⟩:=y6 h
   ·unfold O0 at h
    split at h
    ·exact X2 hX hl x h
    ·exact X2 hX hl y h
    ·cases h
 | .block id x,R,r,st,K,h=>by
   simp only [w7] at h
   obtain ⟨e,st',h1,h2⟩:=X2 hX hl x h
   split at h1
   ·split at h1
    ·exact ⟨_,_,h1,h2⟩
    ·exact ⟨_,_,h1,h2⟩
   ·exact ⟨_,_,h1,h2⟩
 | .seq x y,R,r,st,K,h=>by
   simp only [w7] at h
   have behind:∀ (e:Exit) (st1:St),(match e with | .normal=>w7 X A y st1 K | e=>K e st1)=some r->∃ e st',K e st'=some r/\n7 st1.hp st'.hp:=by
    intro e st1 h1
    cases e with
    | normal=>exact X2 hX hl y h1
    | _=>exact ⟨_,_,h1,n7.refl _⟩
   split at h
   ·obtain ⟨e,st1,h1,h2⟩:=X2 hX hl x h
    obtain ⟨e',st',h3,h4⟩:=behind e st1 h1
    exact ⟨e',st',h3,h2.trans h4⟩
   ·obtain ⟨s,hs,h⟩:=a7 h
    obtain ⟨e,st1,h1,h2⟩:=X2 hX hl x hs
    obtain ⟨n,vs,h1⟩:=ajL h1
    cases h1
    obtain ⟨e',st2,h3,h4⟩:=amd h
    obtain ⟨e2,st',h5,h6⟩:=behind e' st2 h3
    rw [h4] at h6
    exact ⟨e2,st',h5,h2.trans h6⟩
 | .loop x,R,r,st,K,h=>by
   simp only [w7] at h
   split at h
   ·cases h
   ·rename_i li hli
    obtain ⟨vs,h⟩:=ais h
    obtain ⟨res,hres,h⟩:=a7 h
    obtain ⟨m,hm⟩:=hl _ _ _ _ hres
    obtain ⟨e,st',h1,h2⟩:=amd h
    refine ⟨e,st',h1,?_⟩
    rw [h2]
    have step:∀ {vs:List Value} {hp:Heap} {r':Option Nat × List Value × Heap},J4 X A li x vs hp=some r'->n7 hp r'.2.2:=by
     intro vs hp r' h
     obtain ⟨e,st',h1,h2⟩:=X2 hX hl x (abp h)
     have h3:st'.hp=r'.2.2:=by
      split at h1
      ·obtain ⟨_,h⟩:=ais h1; cases h; rfl
      ·obtain ⟨_,_,h⟩:=ajL h1; cases h; rfl
     rw [<-h3]; exact h2
    have:∀ {m:Nat} {vs:List Value} {hp:Heap} {res:Nat × List Value × Heap},LpN (J4 X A li x) m vs hp res->n7 hp res.2.2:=by
     intro m vs hp res h
     induction h with
     | stop h=>exact step h
     | more h _ ih=>exact (step h).trans ih
    exact this hm
 | .rangeFunc ..,R,r,st,K,h=>by cases h
 | .scope ..,R,r,st,K,h=>by cases h
 | .label ..,R,r,st,K,h=>by cases h
 | .goto ..,R,r,st,K,h=>by cases h
 | .refuse ..,R,r,st,K,h=>by cases h
def ahV (tmps:Array Value):ResultVar->Sem Value
 | .tmp t=>pure (tmps.getD t undef)
 | .cell b t=>do loadVar t (<-asAddr (tmps.getD b undef))
theorem aoq (fn:Func) (tmps:Array Value):results fn tmps=(do let vs <-fn.results.mapM (ahV tmps); pure (if h:vs.size=1 then vs[0] else .tuple vs)):=by
 unfold results
 congr 1
theorem acW {P:Program} {X:Ctx} (hX:XOk P X) {E:Entry} {ι:j8} {ρ:Nat->Nat} {st:St} {a:Act} {w:World} (h:D4 X E ι ρ st a w) {R:Type} {r:R}:∀ {rs:List ResultVar} {K:List Value->Option R},H6 X rs st K=some r →
 ∃ vs vs',K vs=some r/\A0 ι vs vs'/\(rs.mapM (ahV a.tmps)).run P w = .ok vs' w
 | [],K,hr=>⟨[],[],hr,.nil,by simp⟩
 | .tmp t::l,K,hr=>by
   simp only [H6] at hr
   split at hr
   ·rename_i v hv
    obtain ⟨vs,vs',h1,h2,h3⟩:=acW hX h hr
    have he:=h.env t _ hv
    cases he with
    | val he =>
      refine ⟨v::vs,a.tmps.getD t undef::vs',h1,.cons he h2,?_⟩
      simp [List.mapM_cons,ahV,h3]
   ·cases hr
 | .cell b t::l,K,hr=>by
   simp only [H6] at hr
   split at hr
   ·rename_i ti ht
    have hti:=hX.tab _ _ ht
    split at hr
    ·rename_i k hk
     split at hr
     ·rename_i cs hcs
      split at hr
      ·rename_i hlen
       have hlen:=Nat.eq_of_beq_eq_true hlen
       have he:=h.env b _ hk
       have hb:a.tmps.getD b undef = .pointer (some ⟨ρ k,0,none⟩):=by
        have:a.eval (.tmp b)=a.tmps.getD b undef:=rfl
        rw [this] at he
        generalize a.tmps.getD b undef=q at *
        cases he; rfl
       obtain ⟨A,el,fr,hblk,hsz,hn,hc⟩:=(h.loc k cs hcs).1
       split at hr
       ·rename_i hag
        obtain ⟨vs,vs',h1,h2,h3⟩:=acW hX h hr
        have hcut:cut cs 0 ti.size=some cs:=by
         rw [<-hlen]; simp [cut]
        obtain ⟨v',hv',hvr⟩:=aas hti (off:=0) (off':=0) (v := .agg cs.toArray) hblk hc (by simp [U2,hag,hcut])
        refine ⟨.agg cs.toArray::vs,v'::vs',h1,.cons hvr h2,?_⟩
        simp only [Nat.add_zero] at hv'
        simp [List.mapM_cons,ahV,hb,asAddr,hv',h3]
       ·rename_i hag
        have hcase:∃ v,cs=[v]/\(H6 X l st fun vs=>K (v::vs))=some r:=by
         split at hr
         ·exact ⟨_,rfl,hr⟩
         ·cases hr
        obtain ⟨v,rfl,hr⟩:=hcase
        obtain ⟨vs,vs',h1,h2,h3⟩:=acW hX h hr
        obtain ⟨v',hv',hvr⟩:=aas hti (off:=0) (off':=0) (v:=v) hblk hc (by simp [U2,hag])
        refine ⟨v::vs,v'::vs',h1,.cons hvr h2,?_⟩
        simp only [Nat.add_zero] at hv'
        simp [List.mapM_cons,ahV,hb,asAddr,hv',h3]
      ·cases hr
     ·cases hr
    ·rename_i p hp
     obtain ⟨v,hv,hr⟩:=a7 hr
     obtain ⟨vs,vs',h1,h2,h3⟩:=acW hX h hr
     have he:=h.env b _ hp
     unfold Y7 at hv
     split at hv
     ·rename_i bb off
      cases e:j7 st.hp bb with
      | none=>rw [e] at hv; cases hv
      | some q =>
        rw [e] at hv
        simp only [Option.bind_some] at hv
        have:a.eval (.tmp b)=a.tmps.getD b undef:=rfl
        rw [this] at he
        generalize hq:a.tmps.getD b undef=y at *
        cases he with
        | val he =>
          cases he with
          | @ptr _ _ z hz =>
            obtain ⟨cs,el,fr,hb',hzz,hlen,hc,_⟩:=h.rel.ok _ _ _ hz e
            obtain ⟨v',hv',hr'⟩:=aas hti (off:=z.off) (off':=off) (v:=v) hb' hc (by rw [<-hv]; unfold U2; cases ti.agg<;>rfl)
            refine ⟨v::vs,v'::vs',h1,.cons hr' h2,?_⟩
            simp [List.mapM_cons,ahV,hq,asAddr,hv',h3]
     ·cases hv
    ·cases hr
   ·cases hr
theorem auz {ι:j8} {vs vs':List Value} (h:A0 ι vs vs'):VR ι (one vs) (if h:vs'.toArray.size=1 then vs'.toArray[0] else .tuple vs'.toArray):=by
 have hl:=h.length
 match vs,vs',h with
 | [v],[v'],.cons hv .nil=>simpa [one] using hv
 | [],[],.nil=>simp [one]; exact .tuple rfl (fun i v v' e=>by simp at e)
 | v::u::vs,v'::u'::vs',h =>
   simp only [one]
   rw [dif_neg (by simp)]
   refine .tuple (by have:=h.length; simpa using this) fun i x x' e e'=>?_
   obtain ⟨q,hq,hv⟩:=h.get (i:=i) (v:=x) (by simpa using e)
   have:(v'::u'::vs')[i]? = some x':=by simpa using e'
   rw [this] at hq; cases hq; exact hv
theorem ae8:∀ {vs:List Value} {i t:Nat} {e:EV},look (Y5 i vs) t=some e->∃ j v,t=i+j/\vs[j]? = some v/\e = .val v
 | [],i,t,e,h=>by simp [Y5,look] at h
 | v::vs,i,t,e,h=>by
   simp only [Y5,j3] at h
   split at h
   ·rename_i ht; cases h; exact ⟨0,v,by omega,by simp,rfl⟩
   ·obtain ⟨j,u,h1,h2,h3⟩:=ae8 h
    exact ⟨j+1,u,by omega,by simpa using h2,h3⟩
theorem ani {P:Program} {X:Ctx} (hX:XOk P X) (hl:ajP X.lp) (hD:ajN P X) {f:FuncId} (hfn:∀ fn,X.fn f=some fn->P.funcs[f]? = some fn/\(fn.name == "runtime.NumGoroutine")=false) {args:List Value} {hp:Heap} {r:Value} {hp':Heap}
 (h:aau X f args hp=some (r,hp')):Enters P f/\n7 hp hp'/\∀ ι w B (args':Array Value),Rel X.ng ι hp w B->A0 ι args args'.toList →
  Calls P f args' w fun e w'=>∃ ι' r',e = .returned r'/\U3 hp.length ι ι'/\Rel X.ng ι' hp' w' B/\Fr ι hp w w'/\Own ι hp w ι' hp'/\VR ι' r r':=by
 unfold aau at h
 split at h
 ·cases h
 ·rename_i fn hf
  obtain ⟨hPf,hname⟩:=hfn fn hf
  split at h
  ·cases h
  ·rename_i c hc
   split at h
   ·rename_i hd
    have hend:∀ (e:Exit) (st':St),(match e with | .normal | .ret=>H6 X fn.results.toList st' fun vs=>some (one vs,st'.hp) | _=>none)=some (r,hp')->∃ vs,(e = .normal\/e = .ret)/\st'.hp=hp'/\r=one vs/\H6 X fn.results.toList st' (fun us=>some us)=some vs:=by
     intro e st' he
     have aux:∀ {rs:List ResultVar} {K:List Value->Option (Value × Heap)} {z:Value × Heap},H6 X rs st' K=some z->∃ vs,K vs=some z/\∀ {R:Type} {K':List Value->Option R},H6 X rs st' K'=K' vs:=by
      intro rs
      induction rs with
      | nil=>intro K z hk; exact ⟨[],hk,rfl⟩
      | cons x rs ih =>
        intro K z hk
        cases x with
        | tmp t =>
          simp only [H6] at hk
          split at hk
          ·rename_i v hv
           obtain ⟨vs,h1,h2⟩:=ih hk
           exact ⟨v::vs,h1,by intro R K'; simp only [H6,hv]; exact h2⟩
          ·cases hk
        | cell b t =>
          simp only [H6] at hk
          split at hk
          ·rename_i ti ht
           split at hk
           ·rename_i k hk'
            split at hk
            ·rename_i cs hcs
             split at hk
             ·rename_i hlen
              split at hk
              ·rename_i hag
               obtain ⟨vs,h1,h2⟩:=ih hk
               exact ⟨_::vs,h1,by intro R K'; simp only [H6,ht,hk',hcs,hlen,hag]; exact h2⟩
              ·rename_i hag
               split at hk
               ·obtain ⟨vs,h1,h2⟩:=ih hk
                exact ⟨_::vs,h1,by intro R K'; simp only [H6,ht,hk',hcs,hlen,hag]; exact h2⟩
               ·cases hk
             ·cases hk
            ·cases hk
           ·rename_i p hp
            obtain ⟨v,hv,hk⟩:=a7 hk
            obtain ⟨vs,h1,h2⟩:=ih hk
            exact ⟨v::vs,h1,by intro R K'; simp only [H6,ht,hp,hv,Option.bind_some]; exact h2⟩
           ·cases hk
          ·cases hk
     cases e<;>first | (cases he; done) | skip
     all_goals
      obtain ⟨vs,h1,h2⟩:=aux he
      cases h1
      exact ⟨vs,by simp,rfl,rfl,h2⟩
    refine ⟨⟨fn,hPf,hname,by simp [hc]⟩,?_,fun ι w B args' hR hargs=>?_⟩
    ·obtain ⟨e,st',h1,h2⟩:=X2 hX hl c h
     obtain ⟨vs,_,h3,_⟩:=hend e st' h1
     rw [<-h3]; exact h2
    ·have hlen:args'.size=args.length:=by have:=hargs.length; simpa using this.symm
     refine calls_of_wp hPf hc ?_
     have hinit:D4 X ⟨ι,hp,w,B⟩ ι (fun _=>0) ⟨Y5 0 args,[],hp⟩ { tmps:=args'++Array.replicate (fn.ntmps-args'.size) undef,defers:=[] } w:=by
      refine ⟨fun t e ht=>?_,fun t k d ht=>?_,fun k c hk=>by simp [look] at hk,fun k k' c c' hk=>by simp [look] at hk,fun k c b x q hk=>by simp [look] at hk,hR,⟨fun _ _=>rfl,n7.refl _,Fr.refl _ _ _,fun b x q hb hq _=>⟨b,x,q,hb,hq,Or.inl rfl,id,rfl⟩⟩,rfl⟩
      ·obtain ⟨j,v,rfl,hj,rfl⟩:=ae8 ht
       obtain ⟨u,hu,hv⟩:=hargs.get hj
       refine .val ?_
       have hu':args'[j]? = some u:=by simpa using hu
       have hjl:j<args'.size:=(Array.getElem?_eq_some_iff.1 hu').1
       have:({ tmps:=args'++Array.replicate (fn.ntmps-args'.size) undef,defers:=[] }:Act).eval (.tmp (0+j))=u:=by
        simp only [Act.eval,Nat.zero_add,Array.getD_eq_getD_getElem?]
        rw [Array.getElem?_append_left hjl,hu']; rfl
       rw [this]; exact hv
      ·obtain ⟨j,v,_,_,h⟩:=ae8 ht
       cases h
     refine M7 hX hl hD c h hinit hd (by simp; omega) fun e st' ι' ρ' a' w' k1 k2 k3=>?_
     obtain ⟨vs,he,h3,rfl,hres⟩:=hend e st' k1
     obtain ⟨us,us',g1,g2,g3⟩:=acW hX k2 hres
     cases g1
     have hrun:(results fn a'.tmps).run P w' = .ok (if h:us'.toArray.size=1 then us'.toArray[0] else .tuple us'.toArray) w':=by
      rw [aoq]
      have:(fn.results.mapM (ahV a'.tmps)).run P w' = .ok us'.toArray w':=by
       rw [Array.mapM_eq_mapM_toList]
       simp [g3]
      simp [this]
     have hR':(∃ ι'' r',Ending.returned (if h:us'.toArray.size=1 then us'.toArray[0] else .tuple us'.toArray) = .returned r'/\U3 hp.length ι ι''/\Rel X.ng ι'' hp' w' B/\Fr ι hp w w'/\Own ι hp w ι'' hp'/\VR ι'' (one vs) r') :=
      ⟨ι',_,rfl,k2.G3.ext,by rw [<-h3]; exact k2.rel,k2.G3.fr,by rw [<-h3]; exact k2.G3.own,auz g2⟩
     rcases he with rfl | rfl
     ·exact bodyPost_end hrun k2.defers hR'
     ·exact bodyPost_ret hrun k2.defers hR'
   ·cases h
end Go.AM

/- What an operation asks of the calls behind it. -/
namespace Go.AM
set_option linter.unusedSimpArgs false
set_option linter.unusedVariables false
abbrev F2:=FuncId->List Value->Heap->Option (Value × Heap)
abbrev Z7:=(List Value->Heap->Option (Option Nat × List Value × Heap))->List Value->Heap->Option (Nat × List Value × Heap)
def Ctx.over (X:Ctx) (call:F2) (lp:Z7):Ctx:={ X with call:=call,lp:=lp }
section
variable {R:Type} {X:Ctx} {st:St} {r:R}
theorem aaX {x:Operand} {K:EV->Option R} (h:S2 X st x K=some r):∃ e,K e=some r/\∀ (c:F2) (l:Z7) (R':Type) (K':EV->Option R'),S2 (X.over c l) st x K'=K' e:=by
 cases x with
 | tmp t =>
   simp only [S2] at h
   cases e:look st.env t with
   | none=>rw [e] at h; cases h
   | some e'=>rw [e] at h; exact ⟨e',h,fun c l R' K'=>by simp only [S2,e]⟩
 | const v =>
   simp only [S2] at h
   cases e:abC v with
   | true=>rw [e] at h; exact ⟨_,h,fun c l R' K'=>by simp only [S2,e]⟩
   | false=>rw [e] at h; cases h
 | global g =>
   simp only [S2] at h
   cases e:Nat.blt g X.ng with
   | true=>rw [e] at h; exact ⟨_,h,fun c l R' K'=>by show S2 _ _ _ _=_; simp only [S2,Ctx.over,e]⟩
   | false=>rw [e] at h; cases h
 | func f=>exact ⟨_,h,fun c l R' K'=>rfl⟩
theorem y7 {x:Operand} {K:Value->Option R} (h:D3 X st x K=some r):∃ v,K v=some r/\∀ (c:F2) (l:Z7) (R':Type) (K':Value->Option R'),D3 (X.over c l) st x K'=K' v:=by
 obtain ⟨e,hk,he⟩:=aaX h
 cases e with
 | val v=>exact ⟨v,hk,fun c l R' K'=>by unfold D3; rw [he]⟩
 | loc k o=>cases hk
 | B4=>cases hk
theorem agN:∀ {xs:List Operand} {K:List Value->Option R},aaR X st xs K=some r->∃ vs,K vs=some r/\∀ (c:F2) (l:Z7) (R':Type) (K':List Value->Option R'),aaR (X.over c l) st xs K'=K' vs
 | [],K,h=>⟨[],h,fun _ _ _ _=>rfl⟩
 | x::xs,K,h=>by
   obtain ⟨v,h,hv⟩:=y7 h
   obtain ⟨vs,h,hvs⟩:=agN h
   exact ⟨v::vs,h,fun c l R' K'=>by simp only [aaR,hv,hvs]⟩
theorem afG {x:Option Operand} {K:Option Value->Option R} (h:voK X st x K=some r):∃ v,K v=some r/\∀ (c:F2) (l:Z7) (R':Type) (K':Option Value->Option R'),voK (X.over c l) st x K'=K' v:=by
 cases x with
 | none=>exact ⟨none,h,fun _ _ _ _=>rfl⟩
 | some x =>
   obtain ⟨v,h,hv⟩:=y7 h
   exact ⟨some v,h,fun c l R' K'=>by simp only [voK,hv]⟩
theorem af6 {agg:Bool} {n:Nat} {v:Value} {K:List Value->Option R} (h:N0 agg n v K=some r):∃ cs,K cs=some r/\∀ (R':Type) (K':List Value->Option R'),N0 agg n v K'=K' cs:=by
 cases agg with
 | true =>
   simp only [N0] at h
   obtain ⟨cs,h1,h⟩:=a7 h
   exact ⟨_,h,fun R' K'=>by simp only [N0,h1,Option.bind_some]⟩
 | false =>
   simp only [N0] at h
   obtain ⟨u,h1,h⟩:=a7 h
   exact ⟨_,h,fun R' K'=>by simp only [N0,h1,Option.bind_some]⟩
theorem adC {place:Nat->Option (Nat × Nat × Bool)}:∀ {ps:List (Nat × Operand)} {cells:List Value} {K:List Value->Option R},U5 X st place ps cells K=some r →
 ∃ cs,K cs=some r/\∀ (c:F2) (l:Z7) (R':Type) (K':List Value->Option R'),U5 (X.over c l) st place ps cells K'=K' cs
 | [],cells,K,h=>⟨cells,h,fun _ _ _ _=>rfl⟩
 | (i,x)::rest,cells,K,h=>by
   simp only [U5] at h
   cases e:place i with
   | none=>rw [e] at h; cases h
   | some p =>
     obtain ⟨off,n,agg⟩:=p
     rw [e] at h
     simp only at h
     cases hb:Nat.ble (off+n) cells.length with
     | false=>rw [hb] at h; cases h
     | true =>
       rw [hb] at h
       obtain ⟨v,h,hv⟩:=y7 h
       obtain ⟨cs,h,hcs⟩:=af6 h
       obtain ⟨cells',h,hp⟩:=adC h
       exact ⟨cells',h,fun c l R' K'=>by simp only [U5,e,hb,hv,hcs,hp]⟩
end
def avB (X:Ctx) (A:M5) (o:Oper) (st:St) {R:Type} (K:EV->List (Nat × List Value)->Heap->A8->Option R) (r:R):Prop :=
 (∃ e loc hp c,K e loc hp c=some r/\∀ (cl:F2) (l:Z7) (R':Type) (K':EV->List (Nat × List Value)->Heap->A8->Option R'),A2 (X.over cl l) A o st K'=K' e loc hp c) ∨
 (∃ f vs res,X.call f vs st.hp=some res/\K (.val res.1) st.loc res.2 .W=some r/\∀ (cl:F2) (l:Z7) (R':Type) (K':EV->List (Nat × List Value)->Heap->A8->Option R'),A2 (X.over cl l) A o st K'=(cl f vs st.hp).bind fun r=>K' (.val r.1) st.loc r.2 .W) ∨
 (∃ f vs v,R8 X.call f vs st.hp=some v/\K (.val v) st.loc st.hp .H=some r/\∀ (cl:F2) (l:Z7) (R':Type) (K':EV->List (Nat × List Value)->Heap->A8->Option R'),A2 (X.over cl l) A o st K'=(R8 cl f vs st.hp).bind fun v=>K' (.val v) st.loc st.hp .H) ∨
 (∃ f vs res,R2 X.call f vs st.hp=some res/\K (.val res.1) st.loc res.2 .A=some r/\∀ (cl:F2) (l:Z7) (R':Type) (K':EV->List (Nat × List Value)->Heap->A8->Option R'),A2 (X.over cl l) A o st K'=(R2 cl f vs st.hp).bind fun r=>K' (.val r.1) st.loc r.2 .A)
section
variable {X:Ctx} {A:M5} {R:Type} {K:EV->List (Nat × List Value)->Heap->A8->Option R} {r:R} {o:Oper} {st:St}
theorem r8 (X:Ctx) (c:F2) (l:Z7):(X.over c l).tab=X.tab:=rfl
theorem ads (X:Ctx) (c:F2) (l:Z7):(X.over c l).kind=X.kind:=rfl
theorem aq4 (X:Ctx) (c:F2) (l:Z7):(X.over c l).ext=X.ext:=rfl
theorem abL (X:Ctx) (c:F2) (l:Z7):(X.over c l).call=c:=rfl
set_option maxHeartbeats 2000000 in
theorem arc (h:A2 X A o st K=some r):avB X A o st K r:=by
 unfold A2 at h
 cases hop:o.op with
 | move x =>
   simp only [hop] at h
   obtain ⟨e,h,he⟩:=aaX h
   exact .inl ⟨_,_,_,_,h,fun cl l R' K'=>by unfold A2; simp only [hop,he]⟩
 | assign x =>
   simp only [hop] at h
   obtain ⟨e,h,he⟩:=aaX h
   exact .inl ⟨_,_,_,_,h,fun cl l R' K'=>by unfold A2; simp only [hop,he]⟩
 | pick c x y =>
   simp only [hop] at h
   obtain ⟨vc,h,hc⟩:=y7 h
   obtain ⟨ex,h,hx⟩:=aaX h
   obtain ⟨ey,h,hy⟩:=aaX h
   split at h
   ·obtain ⟨v,hv,h⟩:=a7 h
    exact .inl ⟨_,_,_,_,h,fun cl l R' K'=>by unfold A2; simp only [hop,hc,hx,hy,hv,Option.bind_some]⟩
   ·have hv:O0 (R:=R) vc none (K (.val _) st.loc st.hp .P)=some r:=h
    unfold O0 at h
    split at h
    ·cases h
    ·exact .inl ⟨_,_,_,_,h,fun cl l R' K'=>by unfold A2; simp only [hop,hc,hx,hy,O0]⟩
    ·cases h
   ·unfold O0 at h
    split at h
    ·exact .inl ⟨_,_,_,_,h,fun cl l R' K'=>by unfold A2; simp only [hop,hc,hx,hy,O0]⟩
    ·cases h
    ·cases h
   ·cases h
 | alloc elem =>
   simp only [hop] at h
   split at h
   ·rename_i ti d ht hd
    split at h
    ·rename_i hm
     split at h
     ·rename_i hl
      exact .inl ⟨_,_,_,_,h,fun cl l R' K'=>by unfold A2; simp only [hop,r8,ht,hd,hm,hl]⟩
     ·cases h
    ·rename_i hm
     exact .inl ⟨_,_,_,_,h,fun cl l R' K'=>by unfold A2; simp only [hop,r8,ht,hd,hm]⟩
   ·cases h
 | box elem x =>
   simp only [hop] at h
   split at h
   ·rename_i ti d ht hd
    obtain ⟨v,h,hv⟩:=y7 h
    obtain ⟨cs,h,hcs⟩:=af6 h
    split at h
    ·rename_i hm
     split at h
     ·rename_i hl
      exact .inl ⟨_,_,_,_,h,fun cl l R' K'=>by unfold A2; simp only [hop,r8,ht,hd,hm,hl,hv,hcs]⟩
     ·cases h
    ·rename_i hm
     exact .inl ⟨_,_,_,_,h,fun cl l R' K'=>by unfold A2; simp only [hop,r8,ht,hd,hm,hv,hcs]⟩
   ·cases h
 | build t parts =>
   simp only [hop] at h
   split at h
   ·rename_i fs z _ _ ht
    obtain ⟨cells',h,hp⟩:=adC h
    exact .inl ⟨_,_,_,_,h,fun cl l R' K'=>by unfold A2; simp only [hop,r8,ht,hp]⟩
   ·rename_i n b8 z _ _ ht
    obtain ⟨cells',h,hp⟩:=adC h
    exact .inl ⟨_,_,_,_,h,fun cl l R' K'=>by unfold A2; simp only [hop,r8,ht,hp]⟩
   ·cases h
 | buildSlice t len parts =>
   simp only [hop] at h
   split at h
   ·rename_i e b8 eb z _ _ _ ht
    split at h
    ·rename_i te hte
     split at h
     ·rename_i hb
      obtain ⟨cells',h,hp⟩:=adC h
      exact .inl ⟨_,_,_,_,h,fun cl l R' K'=>by unfold A2; simp only [hop,r8,ht,hte,hb,hp]⟩
     ·cases h
    ·cases h
   ·cases h
 | load t x =>
   simp only [hop] at h
   split at h
   ·rename_i ti ht
    obtain ⟨e,h,he⟩:=aaX h
    split at h
    ·rename_i k off
     split at h
     ·rename_i cs hk
      split at h
      ·rename_i hag
       obtain ⟨c,hc,h⟩:=a7 h
       exact .inl ⟨_,_,_,_,h,fun cl l R' K'=>by unfold A2; simp only [hop,r8,ht,he,hk,hag,hc,Option.bind_some]⟩
      ·rename_i hag
       obtain ⟨v,hv,h⟩:=a7 h
       exact .inl ⟨_,_,_,_,h,fun cl l R' K'=>by unfold A2; simp only [hop,r8,ht,he,hk,hag,hv,Option.bind_some]⟩
     ·cases h
    ·obtain ⟨v,hv,h⟩:=a7 h
     exact .inl ⟨_,_,_,_,h,fun cl l R' K'=>by unfold A2; simp only [hop,r8,ht,he,hv,Option.bind_some]⟩
    ·cases h
   ·cases h
 | store t x y =>
   simp only [hop] at h
   split at h
   ·rename_i ti ht
    obtain ⟨e,h,he⟩:=aaX h
    obtain ⟨v,h,hv⟩:=y7 h
    obtain ⟨cs,h,hcs⟩:=af6 h
    split at h
    ·rename_i k off
     split at h
     ·rename_i p7 hk
      split at h
      ·rename_i hb
       exact .inl ⟨_,_,_,_,h,fun cl l R' K'=>by unfold A2; simp only [hop,r8,ht,he,hv,hcs,hk,hb]⟩
      ·cases h
     ·cases h
    ·obtain ⟨hp',hh,h⟩:=a7 h
     exact .inl ⟨_,_,_,_,h,fun cl l R' K'=>by unfold A2; simp only [hop,r8,ht,he,hv,hcs,hh,Option.bind_some]⟩
    ·cases h
   ·cases h
 | nilCheck x =>
   simp only [hop] at h
   obtain ⟨e,h,he⟩:=aaX h
   split at h
   ·exact .inl ⟨_,_,_,_,h,fun cl l R' K'=>by unfold A2; simp only [hop,he]⟩
   ·obtain ⟨v,hv,h⟩:=a7 h
    exact .inl ⟨_,_,_,_,h,fun cl l R' K'=>by unfold A2; simp only [hop,he,hv,Option.bind_some]⟩
   ·cases h
 | binOp op t x y yt =>
   simp only [hop] at h
   split at h
   ·rename_i ti ht
    obtain ⟨a,h,ha⟩:=y7 h
    obtain ⟨b,h,hb⟩:=y7 h
    obtain ⟨v,hv,h⟩:=a7 h
    exact .inl ⟨_,_,_,_,h,fun cl l R' K'=>by unfold A2; simp only [hop,r8,ht,ha,hb,hv,Option.bind_some]⟩
   ·cases h
 | unOp op t x =>
   simp only [hop] at h
   obtain ⟨a,h,ha⟩:=y7 h
   obtain ⟨v,hv,h⟩:=a7 h
   exact .inl ⟨_,_,_,_,h,fun cl l R' K'=>by unfold A2; simp only [hop,ha,hv,Option.bind_some]⟩
 | convert src dst x =>
   simp only [hop] at h
   split at h
   ·rename_i ts td hts htd
    obtain ⟨va,h,ha⟩:=y7 h
    split at h
    ·rename_i k k' hk hk'
     obtain ⟨v,hv,h⟩:=a7 h
     exact .inl ⟨_,_,_,_,h,fun cl l R' K'=>by unfold A2; simp only [hop,r8,hts,htd,ha,hk,hk',hv,Option.bind_some]⟩
    ·rename_i hk hk'
     obtain ⟨v,hv,h⟩:=a7 h
     exact .inl ⟨_,_,_,_,h,fun cl l R' K'=>by unfold A2; simp only [hop,r8,hts,htd,ha,hk,hk',hv,Option.bind_some]⟩
    ·rename_i hk hk'
     split at h
     ·rename_i e _ _ _ s hk2
      split at h
      ·rename_i hte
       exact .inl ⟨_,_,_,_,h,fun cl l R' K'=>by unfold A2; simp only [hop,r8,hts,htd,ha,hk',hk2,hte]⟩
      ·cases h
     ·cases h
    ·rename_i e _ _ _ hk hk'
     split at h
     ·rename_i hte
      obtain ⟨v,hv,h⟩:=a7 h
      exact .inl ⟨_,_,_,_,h,fun cl l R' K'=>by unfold A2; simp only [hop,r8,hts,htd,ha,hk,hk',hte,hv,Option.bind_some]⟩
     ·cases h
    ·cases h
   ·cases h
 | makeFunc fn first captured =>
   simp only [hop] at h
   split at h
   ·rename_i hz
    obtain ⟨vs,h,hvs⟩:=agN h
    exact .inl ⟨_,_,_,_,h,fun cl l R' K'=>by unfold A2; simp only [hop,hz,hvs]⟩
   ·cases h
 | makeSlice t l c =>
   simp only [hop] at h
   split at h
   ·rename_i e b8 eb z _ _ _ ht
    obtain ⟨vl,h,hl⟩:=y7 h
    obtain ⟨vc,h,hc⟩:=y7 h
    obtain ⟨n,hn,h⟩:=a7 h
    exact .inl ⟨_,_,_,_,h,fun cl l R' K'=>by unfold A2; simp only [hop,r8,ht,hl,hc,hn,Option.bind_some]⟩
   ·cases h
 | slice t x lo hi mx =>
   simp only [hop] at h
   split at h
   ·rename_i ht
    obtain ⟨v,h,hv⟩:=y7 h
    obtain ⟨l,h,hl⟩:=afG h
    obtain ⟨k,h,hk⟩:=afG h
    split at h
    ·obtain ⟨u,hu,h⟩:=a7 h
     exact .inl ⟨_,_,_,_,h,fun cl l R' K'=>by unfold A2; simp only [hop,r8,ht,hv,hl,hk,hu,Option.bind_some]⟩
    ·cases h
   ·rename_i e b8 eb z _ _ _ ht
    obtain ⟨v,h,hv⟩:=y7 h
    obtain ⟨l,h,hl⟩:=afG h
    obtain ⟨k,h,hk⟩:=afG h
    obtain ⟨m,h,hm⟩:=afG h
    obtain ⟨u,hu,h⟩:=a7 h
    exact .inl ⟨_,_,_,_,h,fun cl l R' K'=>by unfold A2; simp only [hop,r8,ht,hv,hl,hk,hm,hu,Option.bind_some]⟩
   ·rename_i n _ _ _ ht
    split at h
    ·obtain ⟨v,h,hv⟩:=y7 h
     obtain ⟨u,hu,h⟩:=a7 h
     exact .inl ⟨_,_,_,_,h,fun cl l R' K'=>by unfold A2; simp only [hop,r8,ht,hv,hu,Option.bind_some]⟩
    ·cases h
   ·cases h
 | fieldAddr t x f =>
   simp only [hop] at h
   split at h
   ·rename_i fs _ _ _ ht
    split at h
    ·rename_i off n agg hf
     obtain ⟨e,h,he⟩:=aaX h
     split at h
     ·exact .inl ⟨_,_,_,_,h,fun cl l R' K'=>by unfold A2; simp only [hop,r8,ht,hf,he]⟩
     ·obtain ⟨v,hv,h⟩:=a7 h
      exact .inl ⟨_,_,_,_,h,fun cl l R' K'=>by unfold A2; simp only [hop,r8,ht,hf,he,hv,Option.bind_some]⟩
     ·cases h
    ·cases h
   ·cases h
 | field t x f =>
   simp only [hop] at h
   split at h
   ·rename_i fs n _ _ ht
    split at h
    ·rename_i off m agg hf
     obtain ⟨v,h,hv⟩:=y7 h
     obtain ⟨cs,hcs,h⟩:=a7 h
     split at h
     ·obtain ⟨c,hc,h⟩:=a7 h
      exact .inl ⟨_,_,_,_,h,fun cl l R' K'=>by unfold A2; simp only [hop,r8,ht,hf,hv,hcs,hc,Option.bind_some]⟩
     ·obtain ⟨c,hc,h⟩:=a7 h
      exact .inl ⟨_,_,_,_,h,fun cl l R' K'=>by unfold A2; simp only [hop,r8,ht,hf,hv,hcs,hc,Option.bind_some]⟩
    ·cases h
   ·cases h
 | indexAddr t x i =>
   simp only [hop] at h
   split at h
   ·rename_i e b8 eb z _ _ _ ht
    obtain ⟨v,h,hv⟩:=y7 h
    obtain ⟨j,h,hj⟩:=y7 h
    obtain ⟨u,hu,h⟩:=a7 h
    exact .inl ⟨_,_,_,_,h,fun cl l R' K'=>by unfold A2; simp only [hop,r8,ht,hv,hj,hu,Option.bind_some]⟩
   ·rename_i n b8 _ _ _ ht
    obtain ⟨v,h,hv⟩:=y7 h
    obtain ⟨j,h,hj⟩:=y7 h
    obtain ⟨u,hu,h⟩:=a7 h
    exact .inl ⟨_,_,_,_,h,fun cl l R' K'=>by unfold A2; simp only [hop,r8,ht,hv,hj,hu,Option.bind_some]⟩
   ·cases h
 | index t x i =>
   simp only [hop] at h
   split at h
   ·rename_i ht
    obtain ⟨v,h,hv⟩:=y7 h
    obtain ⟨j,h,hj⟩:=y7 h
    obtain ⟨u,hu,h⟩:=a7 h
    exact .inl ⟨_,_,_,_,h,fun cl l R' K'=>by unfold A2; simp only [hop,r8,ht,hv,hj,hu,Option.bind_some]⟩
   ·rename_i ht
    obtain ⟨v,h,hv⟩:=y7 h
    obtain ⟨j,h,hj⟩:=y7 h
    obtain ⟨u,hu,h⟩:=a7 h
    exact .inl ⟨_,_,_,_,h,fun cl l R' K'=>by unfold A2; simp only [hop,r8,ht,hv,hj,hu,Option.bind_some]⟩
   ·cases h
 | extract x i =>
   simp only [hop] at h
   obtain ⟨v,h,hv⟩:=y7 h
   obtain ⟨u,hu,h⟩:=a7 h
   exact .inl ⟨_,_,_,_,h,fun cl l R' K'=>by unfold A2; simp only [hop,hv,hu,Option.bind_some]⟩
 | call c =>
   simp only [hop] at h
   split at h
   ·rename_i hcal
    split at h
    ·rename_i x t hargs htys
     split at h
     ·rename_i ht
      obtain ⟨v,h,hv⟩:=y7 h
      obtain ⟨u,hu,h⟩:=a7 h
      exact .inl ⟨_,_,_,_,h,fun cl l R' K'=>by unfold A2; simp only [hop,r8,hcal,hargs,htys,ht,hv,hu,Option.bind_some]⟩
     ·rename_i ht
      obtain ⟨v,h,hv⟩:=y7 h
      obtain ⟨u,hu,h⟩:=a7 h
      exact .inl ⟨_,_,_,_,h,fun cl l R' K'=>by unfold A2; simp only [hop,r8,hcal,hargs,htys,ht,hv,hu,Option.bind_some]⟩
     ·cases h
    ·cases h
   ·rename_i hcal
    split at h
    ·rename_i x y hargs
     obtain ⟨v,h,hv⟩:=y7 h
     obtain ⟨u,h,hu⟩:=y7 h
     obtain ⟨m,hm,h⟩:=a7 h
     exact .inl ⟨_,_,_,_,h,fun cl l R' K'=>by unfold A2; simp only [hop,r8,hcal,hargs,hv,hu,hm,Option.bind_some]⟩
    ·cases h
   ·rename_i hcal
    split at h
    ·rename_i x y t u d hargs htys hdst
     split at h
     ·rename_i ht hu
      obtain ⟨s,h,hs⟩:=y7 h
      obtain ⟨v,h,hv⟩:=y7 h
      obtain ⟨v',hv',h⟩:=a7 h
      split at h
      ·rename_i hm
       obtain ⟨q,hq,h⟩:=a7 h
       exact .inl ⟨_,_,_,_,h,fun cl l R' K'=>by unfold A2; simp only [hop,r8,hcal,hargs,htys,hdst,ht,hu,hs,hv,hv',hm,hq,Option.bind_some]⟩
      ·rename_i hm
       obtain ⟨q,hq,h⟩:=a7 h
       exact .inl ⟨_,_,_,_,h,fun cl l R' K'=>by unfold A2; simp only [hop,r8,hcal,hargs,htys,hdst,ht,hu,hs,hv,hv',hm,hq,Option.bind_some]⟩
     ·rename_i ht hu
      obtain ⟨s,h,hs⟩:=y7 h
      obtain ⟨v,h,hv⟩:=y7 h
      obtain ⟨v',hv',h⟩:=a7 h
      split at h
      ·rename_i hm
       obtain ⟨q,hq,h⟩:=a7 h
       exact .inl ⟨_,_,_,_,h,fun cl l R' K'=>by unfold A2; simp only [hop,r8,hcal,hargs,htys,hdst,ht,hu,hs,hv,hv',hm,hq,Option.bind_some]⟩
      ·rename_i hm
       obtain ⟨q,hq,h⟩:=a7 h
       exact .inl ⟨_,_,_,_,h,fun cl l R' K'=>by unfold A2; simp only [hop,r8,hcal,hargs,htys,hdst,ht,hu,hs,hv,hv',hm,hq,Option.bind_some]⟩
     ·cases h
    ·cases h
   ·rename_i f hcal
    obtain ⟨vs,h,hvs⟩:=agN h
    split at h
    ·rename_i hk
     obtain ⟨q,hq,h⟩:=a7 h
     exact .inr (.inl ⟨_,_,_,hq,h,fun cl l R' K'=>by unfold A2; simp only [hop,hcal,hvs,ads,hk,abL]⟩)
    ·rename_i hk
     obtain ⟨q,hq,h⟩:=a7 h
     exact .inr (.inr (.inl ⟨_,_,_,hq,h,fun cl l R' K'=>by unfold A2; simp only [hop,hcal,hvs,ads,hk,abL]⟩))
    ·rename_i hk
     obtain ⟨q,hq,h⟩:=a7 h
     exact .inr (.inr (.inr ⟨_,_,_,hq,h,fun cl l R' K'=>by unfold A2; simp only [hop,hcal,hvs,ads,hk,abL]⟩))
    ·rename_i n hk
     obtain ⟨q,hq,h⟩:=a7 h
     exact .inl ⟨_,_,_,_,h,fun cl l R' K'=>by unfold A2; simp only [hop,hcal,hvs,ads,hk,aq4,hq,Option.bind_some]⟩
   ·rename_i fv hne hcal
    obtain ⟨f,h,hf⟩:=y7 h
    obtain ⟨vs,h,hvs⟩:=agN h
    obtain ⟨p,hp,h⟩:=a7 h
    split at h
    ·rename_i hq'
     obtain ⟨q,hq,h⟩:=a7 h
     refine .inr (.inr (.inl ⟨_,_,_,hq,h,fun cl l R' K'=>?_⟩))
     unfold A2
     cases fv with
     | func f=>exact absurd rfl (hne f)
     | _=>simp only [hop,hcal,hf,hvs,hp,hq',abL,Option.bind_some]
    ·rename_i hq'
     obtain ⟨q,hq,h⟩:=a7 h
     refine .inr (.inl ⟨_,_,_,hq,h,fun cl l R' K'=>?_⟩)
     unfold A2
     cases fv with
     | func f=>exact absurd rfl (hne f)
     | _=>simp only [hop,hcal,hf,hvs,hp,hq',abL,Option.bind_some]
   ·cases h
 | _=>simp only [hop] at h; cases h
end
end Go.AM

/- The abstract call without a count of steps. -/
namespace Go.AM
set_option linter.unusedSimpArgs false
set_option linter.unusedVariables false
def B9 (p:Nat->Prop):Prop:=∃ n,∀ m,n<=m->p m
theorem B9.and {p q:Nat->Prop} (h:B9 p) (k:B9 q):B9 fun m=>p m/\q m:=by
 obtain ⟨n1,h1⟩:=h
 obtain ⟨n2,h2⟩:=k
 exact ⟨max n1 n2,fun m hm=>⟨h1 m (by omega),h2 m (by omega)⟩⟩
theorem B9.imp {p q:Nat->Prop} (h:B9 p) (k:∀ m,p m->q m):B9 q:=by
 obtain ⟨n,h⟩:=h
 exact ⟨n,fun m hm=>k m (h m hm)⟩
theorem B9.of {p:Nat->Prop} (h:∀ m,p m):B9 p:=⟨0,fun m _=>h m⟩
theorem B9.const {p:Prop} (h:B9 fun _=>p):p:=by
 obtain ⟨n,h⟩:=h
 exact h n (Nat.le_refl _)
theorem arj {R:Type} {kp:E9} {st:St} {K:List Value->Heap->Option R} {r:R} (h:L4 kp st K=some r):∃ vs,K vs st.hp=some r/\∀ (R':Type) (K':List Value->Heap->Option R'),L4 kp st K'=K' vs st.hp:=by
 have hv:∀ {ss:List Nat} {R:Type} {K:List Value->Option R} {r:R},aa7 st.env ss K=some r->∃ vs,K vs=some r/\∀ (R':Type) (K':List Value->Option R'),aa7 st.env ss K'=K' vs:=by
  intro ss
  induction ss with
  | nil=>intro R K r h; exact ⟨[],h,fun _ _=>rfl⟩
  | cons s ss ih =>
    intro R K r h
    simp only [aa7] at h
    split at h
    ·rename_i v hl
     obtain ⟨vs,h1,h2⟩:=ih h
     exact ⟨v::vs,h1,fun R' K'=>by simp only [aa7,hl,h2]⟩
    ·cases h
 have hc:∀ {ks:List (Nat × Nat)} {R:Type} {K:List Value->Option R} {r:R},csK st.loc ks K=some r->∃ vs,K vs=some r/\∀ (R':Type) (K':List Value->Option R'),csK st.loc ks K'=K' vs:=by
  intro ks
  induction ks with
  | nil=>intro R K r h; exact ⟨[],h,fun _ _=>rfl⟩
  | cons s ks ih =>
    intro R K r h
    obtain ⟨k,n⟩:=s
    simp only [csK] at h
    split at h
    ·rename_i cs hl
     split at h
     ·rename_i hb
      obtain ⟨vs,h1,h2⟩:=ih h
      exact ⟨cs++vs,h1,fun R' K'=>by simp only [csK,hl,hb,h2]⟩
     ·cases h
    ·cases h
 unfold L4 at h
 split at h
 ·rename_i hl
  obtain ⟨vs,h,h1⟩:=hv h
  obtain ⟨cs,h,h2⟩:=hc h
  exact ⟨_,h,fun R' K'=>by simp only [L4,hl,h1,h2]⟩
 ·cases h
theorem alO {R:Type} {kp:E9} {vs:List Value} {hp:Heap} {K:St->Option R} {r:R} (h:Y2 kp vs hp K=some r):K (X1 kp vs hp)=some r/\∀ (R':Type) (K':St->Option R'),Y2 kp vs hp K'=K' (X1 kp vs hp):=by
 refine ⟨abp h,fun R' K'=>?_⟩
 unfold Y2 at h ⊢
 split at h
 ·split at h
  ·rename_i hl; simp only [hl,if_true]; rfl
  ·cases h
 ·cases h
theorem al0 {R:Type} {vs:List Value} {hp:Heap} {K:Exit->St->Option R} {r:R}:∀ {outs:List (Exit × E9)} {n:Nat},inK outs n vs hp K=some r->∃ e st,K e st=some r/\∀ (R':Type) (K':Exit->St->Option R'),inK outs n vs hp K'=K' e st
 | [],_,h=>by cases h
 | (x,kp)::l,0,h=>⟨x,_,abp h,fun R' K'=>by simp only [inK,(alO h).2]⟩
 | (x,kp)::l,n+1,h=>by
   obtain ⟨e,st,h1,h2⟩:=al0 (outs:=l) (n:=n) h
   exact ⟨e,st,h1,fun R' K'=>by simp only [inK,h2]⟩
theorem apE {R:Type} {ops:Array Oper} {o:Oper} {env:List (Nat × EV)} {run pass:List (Nat × EV)->Option R} {r:R} (h:K9 ops o env run pass=some r) :
 ∃ env',(run env'=some r/\∀ (R':Type) (run' pass':List (Nat × EV)->Option R'),K9 ops o env run' pass'=run' env')\/(pass env'=some r/\∀ (R':Type) (run' pass':List (Nat × EV)->Option R'),K9 ops o env run' pass'=pass' env'):=by
 unfold K9 at h
 split at h
 ·rename_i hg
  exact ⟨_,.inl ⟨h,fun R' run' pass'=>by simp only [K9,hg]⟩⟩
 ·rename_i j want hg
  split at h
  ·cases h
  ·rename_i d hd
   split at h
   ·rename_i v hl
    have hv:v = .bool true\/v = .bool false:=by
     cases v with
     | bool b=>cases b<;>simp
     | _=>cases want<;>cases h
    rcases hv with rfl | rfl<;>cases want<;>simp only [O0] at h <;>
     first
      | exact ⟨_,.inl ⟨h,fun R' run' pass'=>by simp only [K9,hg,hd,hl,O0]⟩⟩
      | exact ⟨_,.inr ⟨h,fun R' run' pass'=>by simp only [K9,hg,hd,hl,O0]⟩⟩
   ·rename_i hl
    exact ⟨_,.inr ⟨h,fun R' run' pass'=>by simp only [K9,hg,hd,hl]⟩⟩
   ·cases h
structure ahF (X:Ctx) (c:Nat->F2) (l:Nat->Z7):Prop where
 call:∀ f vs hp res,X.call f vs hp=some res->B9 fun m=>c m f vs hp=some res
 lp:∀ (B:List Value->Heap->Option (Option Nat × List Value × Heap)) (Bm:Nat->List Value->Heap->Option (Option Nat × List Value × Heap)),(∀ vs hp res,B vs hp=some res->B9 fun m=>Bm m vs hp=some res) →
  ∀ vs hp res,X.lp B vs hp=some res->B9 fun m=>l m (Bm m) vs hp=some res
theorem amt {c c':F2} {f:FuncId} {vs:List Value} {hp:Heap} {v:Value} (h:R8 c f vs hp=some v):∃ res,c f vs hp=some res/\(c' f vs hp=some res->R8 c' f vs hp=some v):=by
 unfold R8 at h ⊢
 obtain ⟨res,h1,h2⟩:=a7 h
 exact ⟨res,h1,fun h3=>by rw [h3]; exact h2⟩
theorem alX {c c':F2} {f:FuncId} {vs:List Value} {hp:Heap} {v:Value × Heap} (h:R2 c f vs hp=some v):∃ res,c f vs hp=some res/\(c' f vs hp=some res->R2 c' f vs hp=some v):=by
 unfold R2 at h ⊢
 obtain ⟨res,h1,h2⟩:=a7 h
 exact ⟨res,h1,fun h3=>by rw [h3]; exact h2⟩
section
variable {X:Ctx} {c:Nat->F2} {l:Nat->Z7} {A:M5}
theorem atK (hN:ahF X c l) {R:Type} {r:R} {o:Oper} {st:St} {K:EV->List (Nat × List Value)->Heap->A8->Option R} {Km:Nat->EV->List (Nat × List Value)->Heap->A8->Option R}
 (h:A2 X A o st K=some r) (hK:∀ e loc hp cl,K e loc hp cl=some r->B9 fun m=>Km m e loc hp cl=some r):B9 fun m=>A2 (X.over (c m) (l m)) A o st (Km m)=some r:=by
 rcases arc h with ⟨e,loc,hp,cl,h1,h2⟩ | ⟨f,vs,res,h1,h2,h3⟩ | ⟨f,vs,v,h1,h2,h3⟩ | ⟨f,vs,v,h1,h2,h3⟩
 ·exact (hK _ _ _ _ h1).imp fun m hm=>by rw [h2]; exact hm
 ·exact ((hN.call _ _ _ _ h1).and (hK _ _ _ _ h2)).imp fun m ⟨a,b⟩=>by rw [h3,a]; exact b
 ·obtain ⟨res,g1,_⟩:=amt (c':=X.call) h1
  refine ((hN.call _ _ _ _ g1).and (hK _ _ _ _ h2)).imp fun m ⟨a,b⟩=>?_
  obtain ⟨res',g2,g3⟩:=amt (c':=c m) h1
  rw [g1] at g2; cases g2
  rw [h3,g3 a]; exact b
 ·obtain ⟨res,g1,_⟩:=alX (c':=X.call) h1
  refine ((hN.call _ _ _ _ g1).and (hK _ _ _ _ h2)).imp fun m ⟨a,b⟩=>?_
  obtain ⟨res',g2,g3⟩:=alX (c':=c m) h1
  rw [g1] at g2; cases g2
  rw [h3,g3 a]; exact b
theorem aeY (hN:ahF X c l) {R:Type} {r:R} {ops:Array Oper}:∀ {os:List Oper} {cl:List A8} {st:St} {K:List A8->St->Option R} {Km:Nat->List A8->St->Option R},
 X4 X A ops os cl st K=some r->(∀ cl st,K cl st=some r->B9 fun m=>Km m cl st=some r)->B9 fun m=>X4 (X.over (c m) (l m)) A ops os cl st (Km m)=some r
 | [],cl,st,K,Km,h,hK=>hK _ _ h
 | o::os,cl,st,K,Km,h,hK=>by
   simp only [X4] at h ⊢
   obtain ⟨env',⟨h1,h2⟩ | ⟨h1,h2⟩⟩:=apE h
   ·refine (atK hN h1 (Km:=fun m e loc hp c'=>X4 (X.over (c m) (l m)) A ops os (c'::cl) ⟨acb env' o.dst e,loc,hp⟩ (Km m)) fun e loc hp cl' h3=>aeY hN h3 hK).imp fun m hm=>?_
    rw [h2]; exact hm
   ·exact (aeY hN h1 hK).imp fun m hm=>by rw [h2]; exact hm
theorem T0 (hN:ahF X c l):∀ (x:Code) {R:Type} {r:R} {st:St} {K:Exit->St->Option R} {Km:Nat->Exit->St->Option R},
 w7 X A x st K=some r->(∀ e st,K e st=some r->B9 fun m=>Km m e st=some r)->B9 fun m=>w7 (X.over (c m) (l m)) A x st (Km m)=some r
 | .skip,R,r,st,K,Km,h,hK=>hK _ _ h
 | .exit id,R,r,st,K,Km,h,hK=>hK _ _ h
 | .ret,R,r,st,K,Km,h,hK=>hK _ _ h
 | .region id ops draw,R,r,st,K,Km,h,hK=>by
   cases draw with
   | false =>
     simp only [w7] at h ⊢
     exact aeY hN h fun cl st h=>hK _ _ h
   | true =>
     simp only [w7] at h ⊢
     refine aeY hN h fun cl st h=>?_
     split at h
     ·exact hK _ _ h
     ·cases h
 | .cond y a b,R,r,st,K,Km,h,hK=>by
   simp only [w7] at h ⊢
   obtain ⟨v,h,hv⟩:=y7 h
   have hb:(v = .bool true/\w7 X A a st K=some r)\/(v = .bool false/\w7 X A b st K=some r):=by
    ·unfold O0 at h
     split at h
     ·exact .inl ⟨rfl,h⟩
     ·exact .inr ⟨rfl,h⟩
     ·cases h
   rcases hb with ⟨rfl,h⟩ | ⟨rfl,h⟩
   ·exact (T0 hN a h hK).imp fun m hm=>by rw [hv]; exact hm
   ·exact (T0 hN b h hK).imp fun m hm=>by rw [hv]; exact hm
 | .block id a,R,r,st,K,Km,h,hK=>by
   simp only [w7] at h ⊢
   refine T0 hN a h fun e st h=>?_
   cases e with
   | exit i =>
     simp only at h ⊢
     split at h
     ·rename_i hb; exact (hK _ _ h).imp fun m hm=>by first | exact hm | (rw [hb]; exact hm)
     ·rename_i hb; exact (hK _ _ h).imp fun m hm=>by first | exact hm | (rw [hb]; exact hm)
   | _=>exact hK _ _ h
 | .seq a b,R,r,st,K,Km,h,hK=>by
   simp only [w7] at h ⊢
   have behind:∀ (e:Exit) (st:St),(match e with | .normal=>w7 X A b st K | e=>K e st)=some r->B9 fun m=>(match e with | .normal=>w7 (X.over (c m) (l m)) A b st (Km m) | e=>Km m e st)=some r:=by
    intro e st h
    cases e with
    | normal=>exact T0 hN b h hK
    | _=>exact hK _ _ h
   split at h
   ·rename_i hj
    exact (T0 hN a h (Km:=fun m e st=>match e with | .normal=>w7 (X.over (c m) (l m)) A b st (Km m) | e=>Km m e st) behind).imp fun m hm=>hm
   ·rename_i outs hj
    obtain ⟨s,hs,h⟩:=a7 h
    obtain ⟨e,st',h1,h2⟩:=al0 h
    refine ((T0 hN a hs (Km:=fun _ e st=>V1 outs e st fun n vs hp=>some (n,vs,hp)) fun e st h=>B9.of fun _=>h).and (behind e st' h1)).imp fun m ⟨g1,g2⟩=>?_
    show (Option.bind _ _)=some r
    rw [g1]
    simp only [Option.bind_some]
    rw [h2]; exact g2
 | .loop a,R,r,st,K,Km,h,hK=>by
   simp only [w7] at h ⊢
   split at h
   ·cases h
   ·rename_i li hli
    obtain ⟨vs,h,h0⟩:=arj h
    obtain ⟨res,hres,h⟩:=a7 h
    obtain ⟨e,st',h1,h2⟩:=al0 h
    have hB:=hN.lp (J4 X A li a) (fun m=>J4 (X.over (c m) (l m)) A li a) (fun vs hp res hr=>by
     obtain ⟨g1,g2⟩:=alO hr
     exact (T0 hN a g1 (Km:=fun _ e st=>match e with
      | .normal=>L4 li.ks st fun vs hp=>some (none,vs,hp)
      | e=>V1 li.outs e st fun n vs hp=>some (some n,vs,hp)) fun e st h=>B9.of fun _=>h).imp fun m hm=>by unfold J4; rw [g2]; exact hm) _ _ _ hres
    refine (hB.and (hK e st' h1)).imp fun m ⟨g1,g2⟩=>?_
    rw [h0]
    have g1':(X.over (c m) (l m)).lp (J4 (X.over (c m) (l m)) A li a) vs st.hp=some res:=g1
    show Option.bind ((X.over (c m) (l m)).lp (J4 (X.over (c m) (l m)) A li a) vs st.hp) _=some r
    rw [g1']
    simp only [Option.bind_some]
    rw [h2]; exact g2
 | .rangeFunc ..,R,r,st,K,Km,h,hK=>by cases h
 | .scope ..,R,r,st,K,Km,h,hK=>by cases h
 | .label ..,R,r,st,K,Km,h,hK=>by cases h
 | .goto ..,R,r,st,K,Km,h,hK=>by cases h
 | .refuse ..,R,r,st,K,Km,h,hK=>by cases h
theorem agl {R:Type} (X:Ctx) (c:F2) (l:Z7) (st:St):∀ (rs:List ResultVar) (K:List Value->Option R),H6 (X.over c l) rs st K=H6 X rs st K
 | [],K=>rfl
 | .tmp t::rs,K=>by
   simp only [H6,agl X c l st rs]
 | .cell a t::rs,K=>by
   simp only [H6,r8,agl X c l st rs]
theorem agm (hN:ahF X c l) {f:FuncId} {args:List Value} {hp:Heap} {r:Value × Heap} (h:aau X f args hp=some r):B9 fun m=>aau (X.over (c m) (l m)) f args hp=some r:=by
 unfold aau at h ⊢
 have e1:∀ m,(X.over (c m) (l m)).fn f=X.fn f:=fun _=>rfl
 have e2:∀ m,(X.over (c m) (l m)).I8 f=X.I8 f:=fun _=>rfl
 simp only [e1,e2]
 split at h
 ·cases h
 ·rename_i fn hf
  split at h
  ·cases h
  ·rename_i x hx
   split at h
   ·rename_i hd
    try simp only [hf,hx,hd]
    refine (T0 hN x h (Km:=fun m e st=>match e with
     | .normal | .ret=>H6 (X.over (c m) (l m)) fn.results.toList st fun vs=>some (one vs,st.hp)
     | _=>none) fun e st h=>B9.of fun m=>?_).imp fun m hm=>hm
    cases e<;>first | (simp only [agl]; exact h) | exact h
   ·cases h
end
structure W7 where
 ng:Nat
 tab:List (Nat × TI)
 fn:FuncId->Option Func
 I8:FuncId->M5
 kind:FuncId->Nat
 ext:Nat->List Value->Option Value
 Q8:FuncId->Option (List Value->Heap->Option (Value × Heap))
def W7.ctx (b:W7) (call:F2) (lp:Z7):Ctx:=⟨b.ng,b.tab,b.fn,b.I8,b.kind,b.ext,call,lp⟩
def T1:Nat->Z7
 | 0,_,_,_=>none
 | n+1,B,vs,hp=>match B vs hp with
   | none=>none
   | some (none,vs,hp)=>T1 n B vs hp
   | some (some m,vs,hp)=>some (m,vs,hp)
noncomputable def P8 (b:W7):Nat->F2
 | 0,_,_,_=>none
 | n+1,f,args,hp=>match b.Q8 f with
   | some g=>g args hp
   | none=>aau (b.ctx (P8 b n) (T1 n)) f args hp
noncomputable def ajT {α:Type} (g:Nat->Option α):Option α := @dite _ (∃ a,B9 fun n=>g n=some a) (Classical.propDecidable _) (fun h=>some (Classical.choose h)) (fun _=>none)
theorem B5 {α:Type} {g:Nat->Option α} {a:α}:ajT g=some a<->B9 fun n=>g n=some a:=by
 unfold ajT
 constructor
 ·intro h
  split at h
  ·rename_i hex
   have:=Classical.choose_spec hex
   cases h; exact this
  ·cases h
 ·intro h
  have hex:∃ a,B9 fun n=>g n=some a:=⟨a,h⟩
  rw [dif_pos hex]
  obtain ⟨n1,h1⟩:=Classical.choose_spec hex
  obtain ⟨n2,h2⟩:=h
  have e1:g (max n1 n2)=_:=h1 (max n1 n2) (by omega)
  have e2:g (max n1 n2)=_:=h2 (max n1 n2) (by omega)
  rw [<-e1,e2]
noncomputable def lpW:Z7:=fun B vs hp=>ajT fun n=>T1 n B vs hp
noncomputable def H5 (b:W7):F2:=fun f args hp=>ajT fun n=>P8 b n f args hp
theorem aes {B:List Value->Heap->Option (Option Nat × List Value × Heap)}:∀ {n:Nat} {vs:List Value} {hp:Heap} {res:Nat × List Value × Heap},T1 n B vs hp=some res->∃ m,LpN B m vs hp res
 | 0,_,_,_,h=>by cases h
 | n+1,vs,hp,res,h=>by
   simp only [T1] at h
   split at h
   ·cases h
   ·rename_i hb
    obtain ⟨m,hm⟩:=aes h
    exact ⟨m+1,.more hb hm⟩
   ·rename_i hb
    cases h
    exact ⟨0,.stop hb⟩
theorem aj7 {B:List Value->Heap->Option (Option Nat × List Value × Heap)} {Bm:Nat->List Value->Heap->Option (Option Nat × List Value × Heap)} (hB:∀ vs hp res,B vs hp=some res->B9 fun m=>Bm m vs hp=some res)
 {n:Nat} {vs:List Value} {hp:Heap} {res:Nat × List Value × Heap} (h:LpN B n vs hp res):B9 fun m=>∀ k,n<k->T1 k (Bm m) vs hp=some res:=by
 induction h with
 | stop h =>
   refine (hB _ _ _ h).imp fun m hm k hk=>?_
   obtain ⟨k,rfl⟩:∃ j,k=j+1:=⟨k-1,by omega⟩
   simp only [T1,hm]
 | more h _ ih =>
   refine ((hB _ _ _ h).and ih).imp fun m ⟨g1,g2⟩ k hk=>?_
   obtain ⟨k,rfl⟩:∃ j,k=j+1:=⟨k-1,by omega⟩
   simp only [T1,g1]
   exact g2 k (by omega)
theorem atV (n:Nat):ajP (T1 n):=fun _ _ _ _ h=>aes h
theorem auL:ajP lpW:=fun B vs hp res h=>by
 obtain ⟨n,hn⟩:=B5.1 h
 exact aes (hn n (Nat.le_refl _))
theorem aq7 (B:List Value->Heap->Option (Option Nat × List Value × Heap)) (Bm:Nat->List Value->Heap->Option (Option Nat × List Value × Heap)) (hB:∀ vs hp res,B vs hp=some res->B9 fun m=>Bm m vs hp=some res)
 (vs:List Value) (hp:Heap) (res:Nat × List Value × Heap) {lp:Z7} (hl:ajP lp) (h:lp B vs hp=some res):B9 fun m=>T1 m (Bm m) vs hp=some res:=by
 obtain ⟨n,hn⟩:=hl _ _ _ _ h
 obtain ⟨n1,h1⟩:=aj7 hB hn
 exact ⟨max n1 (n+1),fun m hm=>h1 m (by omega) m (by omega)⟩
theorem aoh (b:W7):∀ (n:Nat) (f:FuncId) (args:List Value) (hp:Heap) (r:Value × Heap),P8 b n f args hp=some r->∀ m,n<=m->P8 b m f args hp=some r:=by
 intro n
 induction n with
 | zero=>intro f args hp r h; cases h
 | succ n ih =>
   intro f args hp r h m hm
   obtain ⟨m,rfl⟩:∃ j,m=j+1:=⟨m-1,by omega⟩
   simp only [P8] at h ⊢
   split at h
   ·rename_i g hg; first | exact h | (simp only [hg]; exact h)
   ·rename_i hg
    try simp only [hg]
    have hN:ahF (b.ctx (P8 b n) (T1 n)) (fun _=>P8 b m) (fun _=>T1 m):=by
     refine ⟨fun f vs hp res h=>B9.of fun _=>ih f vs hp res h m (by omega),fun B Bm hB vs hp res h=>?_⟩
     have h':T1 n B vs hp=some res:=h
     clear h
     have:∀ (n m:Nat) (vs:List Value) (hp:Heap),n<=m->T1 n B vs hp=some res->B9 fun k=>T1 m (Bm k) vs hp=some res:=by
      intro n
      induction n with
      | zero=>intro m vs hp _ h; cases h
      | succ n ihn =>
        intro m vs hp hm h
        obtain ⟨m,rfl⟩:∃ j,m=j+1:=⟨m-1,by omega⟩
        simp only [T1] at h
        split at h
        ·cases h
        ·rename_i hb
         exact ((hB _ _ _ hb).and (ihn m _ _ (by omega) h)).imp fun k ⟨g1,g2⟩=>by simp only [T1,g1]; exact g2
        ·rename_i hb
         cases h
         exact (hB _ _ _ hb).imp fun k g1=>by simp only [T1,g1]
     exact this n m vs hp (by omega) h'
    exact (agm hN h).const
theorem ah9 {b:W7} {n:Nat} {f:FuncId} {args:List Value} {hp:Heap} {r:Value × Heap} (h:P8 b n f args hp=some r):H5 b f args hp=some r :=
 B5.2 ⟨n,fun m hm=>aoh b n f args hp r h m hm⟩
theorem aiC {n:Nat} {B:List Value->Heap->Option (Option Nat × List Value × Heap)} {vs:List Value} {hp:Heap} {r:Nat × List Value × Heap} (h:T1 n B vs hp=some r):lpW B vs hp=some r:=by
 obtain ⟨m,hm⟩:=aes h
 obtain ⟨n1,h1⟩:=aj7 (Bm:=fun _=>B) (fun _ _ _ h=>B9.of fun _=>h) hm
 exact B5.2 ⟨m+1,fun k hk=>h1 n1 (Nat.le_refl _) k (by omega)⟩
theorem ars (b:W7) (f:FuncId) (args:List Value) (hp:Heap) (hp':b.Q8 f=none):H5 b f args hp=aau (b.ctx (H5 b) lpW) f args hp:=by
 have to:∀ r,H5 b f args hp=some r->aau (b.ctx (H5 b) lpW) f args hp=some r:=by
  intro r h
  obtain ⟨n,hn⟩:=B5.1 h
  have:=hn (n+1) (by omega)
  simp only [P8,hp'] at this
  have hN:ahF (b.ctx (P8 b n) (T1 n)) (fun _=>H5 b) (fun _=>lpW):=by
   refine ⟨fun f vs hp res h=>B9.of fun _=>ah9 h,fun B Bm hB vs hp res h=>?_⟩
   obtain ⟨m,hm⟩:=aes (n:=n) h
   exact (aj7 hB hm).imp fun k hk=>aiC (hk (m+1) (by omega))
  exact (agm hN this).const
 have back:∀ r,aau (b.ctx (H5 b) lpW) f args hp=some r->H5 b f args hp=some r:=by
  intro r h
  have hN:ahF (b.ctx (H5 b) lpW) (P8 b) T1:=by
   refine ⟨fun f vs hp res h=>B5.1 h,fun B Bm hB vs hp res h=>aq7 B Bm hB vs hp res auL h⟩
  obtain ⟨n,hn⟩:=agm hN h
  have h1:P8 b (n+1) f args hp=some r:=by
   simp only [P8,hp']
   exact hn n (Nat.le_refl _)
  exact ah9 h1
 cases h1:H5 b f args hp with
 | some r=>exact (to r h1).symm
 | none =>
   cases h2:aau (b.ctx (H5 b) lpW) f args hp with
   | none=>rfl
   | some r=>rw [back r h2] at h1; cases h1
theorem atX (B:List Value->Heap->Option (Option Nat × List Value × Heap)) (vs:List Value) (hp:Heap) :
 lpW B vs hp=match B vs hp with | none=>none | some (none,vs,hp)=>lpW B vs hp | some (some m,vs,hp)=>some (m,vs,hp):=by
 cases hb:B vs hp with
 | none =>
   simp only
   cases h:lpW B vs hp with
   | none=>rfl
   | some r =>
     obtain ⟨n,hn⟩:=B5.1 h
     have:=hn (n+1) (by omega)
     simp only [T1,hb] at this; cases this
 | some x =>
   obtain ⟨o,vs1,hp1⟩:=x
   cases o with
   | some m=>exact aiC (n:=1) (by simp only [T1,hb])
   | none =>
     simp only
     cases h:lpW B vs1 hp1 with
     | some r =>
       obtain ⟨n,hn⟩:=B5.1 h
       exact aiC (n:=n+1) (by simp only [T1,hb]; exact hn n (Nat.le_refl _))
     | none =>
       cases h2:lpW B vs hp with
       | none=>rfl
       | some r =>
         obtain ⟨n,hn⟩:=B5.1 h2
         have:=hn (n+1) (by omega)
         simp only [T1,hb] at this
         rw [aiC this] at h; cases h
end Go.AM
