/- Part 1 of the machines: what is proved is told at each theorem; no condition. -/
import Derived.Tactics
import Derived.Orders
import Derived.Below
import Derived.Deep.AppendSrc
import Derived.Laws.BytesArg
import Derived.Laws.MakeOwn
import Derived.Laws.Append
import Derived.Laws.Build
import Derived.Laws.Tables
import Derived.Laws.Cover3
import Derived.Laws.Small
import Derived.Laws.IdiomStrings
/- The abstract machine: a deterministic reading of the kit's code over an abstract heap, with local variables kept apart. -/
namespace Go.AM
inductive BMode where | ro | rw | gone
 deriving DecidableEq
structure Blk where
 cells : List Value
 sz : Nat
 md : BMode
 fam : Nat
 pl : Bool
abbrev Heap := List Blk
inductive EV where
 | val (v : Value)
 | loc (k off : Nat)
 | skp
structure St where
 env : List (Nat × EV)
 loc : List (Nat × List Value)
 hp : Heap
def look {α : Type} : List (Nat × α) -> Nat -> Option α
 | [], _ => none
 | (k, v) :: l, s => match Nat.beq k s with | true => some v | false => look l s
def setL : List (Nat × List Value) -> Nat -> List Value -> List (Nat × List Value)
 | [], _, _ => []
 | (k, c) :: l, s, d => match Nat.beq k s with | true => (k, d) :: l | false => (k, c) :: setL l s d
def putE (env : List (Nat × EV)) (dst : Option Tmp) (e : EV) : List (Nat × EV) :=
 match dst with | some d => (d, e) :: env | none => env
inductive TK where
 | int (k : IntKind) | bool | str
 | slice (e esz ebytes : Nat) (zero : List Value)
 | struct (fs : List (Nat × Nat × Bool))
 | arr (n esz : Nat)
 | other
structure TI where
 k : TK
 agg : Bool
 size : Nat
 zero : List Value
inductive Cls where
 | P | L (k : Nat) | S (k : Nat) | N (k : Nat) | H | A | W
structure Keep where
 vs : List Nat
 ls : List (Nat × Nat × Nat)
 cs : List (Nat × Nat)
structure LInfo where
 ks : Keep
 outs : List (Exit × Keep)
structure Ann where
 loc : List Nat := []
 loops : List (Nat × LInfo) := []
 joins : List (Nat × Nat × List (Exit × Keep)) := []
 full : List Nat := []
 dynQ : Bool := false
def mem : List Nat -> Nat -> Bool
 | [], _ => false
 | k :: l, s => match Nat.beq k s with | true => true | false => mem l s
def vOne (v : Value) : Option Value := match v with | .agg _ => none | .tuple _ => none | v => some v
def aggN (n : Nat) (v : Value) : Option (List Value) := match v with | .agg cs => if cs.size = n then some cs.toList else none | _ => none
def tabl : Nat -> Nat -> List Value -> List Value
 | _, 0, _ => []
 | i, n + 1, cs => cs.getD i undef :: tabl (i + 1) n cs
def cellsK {R : Type} (agg : Bool) (n : Nat) (v : Value) (K : List Value -> Option R) : Option R :=
 match agg with
 | true => (aggN n v).bind fun cs => K (tabl 0 n cs)
 | false => (vOne v).bind fun v => K [v]
def ifV {R : Type} (v : Value) (a b : Option R) : Option R := match v with | .bool true => a | .bool false => b | _ => none
def vPick (c a b : Value) : Option Value := match c with | .bool true => some a | .bool false => some b | _ => none
def vBits (op : BinOp) (k : IntKind) (x y : Int) : Option Value :=
 match op with
 | .and => some (.int k (k.wrap (BitVec.ofInt k.bits x &&& BitVec.ofInt k.bits y).toNat))
 | .or => some (.int k (k.wrap (BitVec.ofInt k.bits x ||| BitVec.ofInt k.bits y).toNat))
 | .xor => some (.int k (k.wrap (BitVec.ofInt k.bits x ^^^ BitVec.ofInt k.bits y).toNat))
 | .andNot => some (.int k (k.wrap (BitVec.ofInt k.bits x &&& ~~~ BitVec.ofInt k.bits y).toNat))
 | _ => none
def vIntOp (op : BinOp) (k : IntKind) (a b : Int) : Option Value :=
 match op with
 | .add => some (.int k (k.wrap (a + b)))
 | .sub => some (.int k (k.wrap (a - b)))
 | .mul => some (.int k (k.wrap (a * b)))
 | .quo => if b = 0 then none else some (.int k (k.wrap (a.tdiv b)))
 | .rem => if b = 0 then none else some (.int k (a.tmod b))
 | .eql => some (.bool (a == b))
 | .neq => some (.bool (a != b))
 | .lss => some (.bool (a < b))
 | .leq => some (.bool (a <= b))
 | .gtr => some (.bool (a > b))
 | .geq => some (.bool (a ≥ b))
 | op => vBits op k a b
def vStrOp (op : BinOp) (a b : ByteArray) : Option Value :=
 match op with
 | .add => if a.size + b.size <= 9223372036854775807 then some (.string (a ++ b)) else none
 | .eql => some (.bool (a.toList == b.toList))
 | .neq => some (.bool !(a.toList == b.toList))
 | .lss => some (.bool (Op.bytesLess a.toList b.toList))
 | .leq => some (.bool (Op.bytesLess a.toList b.toList || a.toList == b.toList))
 | .gtr => some (.bool !(Op.bytesLess a.toList b.toList || a.toList == b.toList))
 | .geq => some (.bool !(Op.bytesLess a.toList b.toList))
 | _ => none
def vEq (tk : TK) (x y : Value) : Option Bool :=
 match tk, x, y with
 | .bool, .bool a, .bool b => some (a == b)
 | .slice .., .slice a _ _, .slice none _ _ => some a.isNone
 | _, _, _ => none
def vBin (tk : TK) (op : BinOp) (x y : Value) : Option Value :=
 match x, y with
 | .int k a, .int k' b =>
   match op with
   | .shl => if 0 <= b then some (.int k (k.wrap (a * 2 ^ (min b.toNat k.bits)))) else none
   | .shr => if 0 <= b then some (.int k (a.fdiv (2 ^ (min b.toNat k.bits)))) else none
   | op => if k = k' then vIntOp op k a b else none
 | .string a, .string b => vStrOp op a b
 | x, y => match op with
   | .eql => (vEq tk x y).map .bool
   | .neq => (vEq tk x y).map fun b => .bool !b
   | _ => none
def vUn (op : UnOp) (x : Value) : Option Value :=
 match op, x with
 | .neg, .int k n => some (.int k (k.wrap (0 - n)))
 | .not, .bool b => some (.bool !b)
 | _, _ => none
def vConvI (k : IntKind) (x : Value) : Option Value := match x with | .int _ n => some (.int k (k.wrap n)) | _ => none
def vStr (x : Value) : Option Value := match x with | .string s => some (.string s) | _ => none
def vIndexS (x i : Value) : Option Value :=
 match x, i with
 | .string s, .int _ n => if 0 <= n then (s[n.toNat]?).map fun b => .int .u8 b.toNat else none
 | _, _ => none
def bnd (o : Option Value) (d : Int) : Option Int := match o with | none => some d | some (.int _ n) => some n | _ => none
def vSliceS (x : Value) (lo hi : Option Value) : Option Value :=
 match x with
 | .string s => (bnd lo 0).bind fun l => (bnd hi s.size).bind fun h => if 0 <= l /\ l <= h /\ h <= s.size then some (.string (s.extract l.toNat h.toNat)) else none
 | _ => none
def mkCap (full : Prop) [Decidable full] (n : Nat) : Nat := if full then n else n + 1
def shiftA (a : Option Addr) (d : Nat) : Option Addr := a.map fun x => ⟨x.block, x.off + d, none⟩
def vOff (x : Value) (off : Nat) : Option Value :=
 match x with | .pointer (some ⟨b, o, none⟩) => some (.pointer (some ⟨b, o + off, none⟩)) | _ => none
def vIdx (esz : Nat) (x i : Value) : Option Value :=
 match x, i with
 | .slice (some ⟨b, o, none⟩) n _, .int _ j => if 0 <= j /\ j < n then some (.pointer (some ⟨b, o + j.toNat * esz, none⟩)) else none
 | _, _ => none
def vIdxA (n esz : Nat) (x i : Value) : Option Value :=
 match x, i with
 | .pointer (some ⟨b, o, none⟩), .int _ j => if 0 <= j /\ j < n then some (.pointer (some ⟨b, o + j.toNat * esz, none⟩)) else none
 | _, _ => none
def vIndexR (n esz : Nat) (x i : Value) : Option Value :=
 match x, i with
 | .agg cs, .int _ j => if esz = 1 /\ 0 <= j /\ j < n then cs[j.toNat]? else none
 | _, _ => none
def arrP (n esz i : Nat) : Option (Nat × Nat × Bool) := if esz = 1 /\ i < n then some (i, 1, false) else none
def vExt (x : Value) (i : Nat) : Option Value := match x with | .tuple vs => vs[i]? | _ => none
def vLenS (x : Value) : Option Value := match x with | .string s => some (.int .i64 s.size) | _ => none
def vLenV (x : Value) : Option Value := match x with | .slice _ n _ => some (.int .i64 n) | _ => none
def vSl (x : Value) : Option Value := match x with | .slice a n c => some (.slice a n c) | _ => none
def vNil (x : Value) : Option Value :=
 match x with | .pointer (some a) => some (.pointer (some a)) | .func (.func f) a b => some (.func (.func f) a b) | _ => none
def vMin (x y : Value) : Option Value :=
 match x, y with | .int k a, .int k' b => if k = k' then some (.int k (if b < a then b else a)) else none | _, _ => none
def pureV1 : Value -> Bool
 | .bool _ | .int _ _ | .string _ | .pointer none | .slice none 0 0 | .nilFunc => true
 | _ => false
def pureV : Value -> Bool
 | .agg cs => cs.all pureV1
 | v => pureV1 v
def scalar1 : Value -> Bool
 | .bool _ | .int _ _ | .string _ => true
 | _ => false
def scalarV : Value -> Bool
 | .tuple vs => vs.all scalar1
 | v => scalar1 v
def blkAt (hp : Heap) (b : Nat) : Option Blk := (hp[b]?).bind fun k => if k.md = .gone then none else some k
def szA (hp : Heap) (esz n : Nat) (a : Option Addr) : Bool :=
 match n, a with
 | 0, _ => true
 | _, some a => (match hp[a.block]? with | some k => Nat.beq k.sz esz | none => false)
 | _, none => false
def vSliceV (hp : Heap) (esz : Nat) (x : Value) (lo hi mx : Option Value) : Option Value :=
 match x with
 | .slice a n c => (bnd lo 0).bind fun l => (bnd hi n).bind fun h =>
   match mx with
   | none => if szA hp esz n a = true /\ 0 <= l /\ l <= h /\ h <= n then some (.slice (shiftA a (l.toNat * esz)) (h - l).toNat (mkCap (h = n /\ c = n) (h - l).toNat)) else none
   | some m => (bnd (some m) 0).bind fun m => if szA hp esz n a = true /\ hi.isSome /\ 0 <= l /\ l <= h /\ h <= m /\ m <= n then some (.slice (shiftA a (l.toNat * esz)) (h - l).toNat (mkCap (h = m) (h - l).toNat)) else none
 | _ => none
def vSliceA (hp : Heap) (n esz : Nat) (x : Value) : Option Value :=
 match x with
 | .pointer (some ⟨b, o, none⟩) => (blkAt hp b).bind fun k => if 0 < n /\ esz = 1 /\ k.sz = 1 /\ o + n <= k.cells.length then some (.slice (some ⟨b, o, none⟩) n n) else none
 | _ => none
def cut (l : List Value) (o n : Nat) : Option (List Value) := if o + n <= l.length then some ((l.drop o).take n) else none
def setSeg (l : List Value) (o : Nat) (cs : List Value) : List Value := l.take o ++ cs ++ l.drop (o + cs.length)
def hLoad (hp : Heap) (agg : Bool) (n : Nat) (p : Value) : Option Value :=
 match p with
 | .pointer (some ⟨b, o, none⟩) => (blkAt hp b).bind fun k =>
   match agg with
   | true => (cut k.cells o n).map fun cs => .agg cs.toArray
   | false => k.cells[o]?
 | _ => none
def killFam (hp : Heap) (f : Nat) : Heap := hp.map fun k => if k.fam = f then { k with md := .gone } else k
def useUp (hp : Heap) (b : Nat) (k : Blk) (e : Nat) : Heap := if e = k.cells.length then hp.set b { k with md := .ro } else killFam hp k.fam
def hStore (hp : Heap) (p : Value) (cs : List Value) : Option Heap :=
 match p with
 | .pointer (some ⟨b, o, none⟩) => (blkAt hp b).bind fun k =>
   if k.md = .rw /\ o + cs.length <= k.cells.length then some ((killFam hp k.fam).set b { k with cells := setSeg k.cells o cs }) else none
 | _ => none
def bytesV (s : ByteArray) : List Value := s.data.toList.map fun b => .int .u8 b.toNat
def hRead (hp : Heap) (sz : Nat) (x : Value) : Option (List Value) :=
 match x with
 | .slice none _ _ => some []
 | .slice (some ⟨b, o, none⟩) n _ => if n = 0 then some [] else (blkAt hp b).bind fun k => if k.sz = sz then cut k.cells o (n * sz) else none
 | .slice (some _) 0 _ => some []
 | .string s => if sz = 1 then some (bytesV s) else none
 | _ => none
def lenV : Value -> Nat
 | .slice _ n _ => n
 | .string s => s.size
 | _ => 0
def newSl (hp : Heap) (n c : Nat) : Value := .slice (some ⟨hp.length, 0, none⟩) n c
def hAppFull (hp : Heap) (sz bytes : Nat) (s x : Value) : Option (Value × Heap) :=
 match s with
 | .slice a n c =>
   (hRead hp sz x).bind fun new =>
   if lenV x = 0 then some (.slice a n c, hp)
   else if c = n /\ (n + lenV x) * bytes <= 140737488355328 then
    (hRead hp sz s).bind fun old => some (newSl hp (n + lenV x) (n + lenV x + 1), hp ++ [⟨old ++ new, sz, .rw, hp.length, true⟩])
   else none
 | _ => none
def hApp (hp : Heap) (sz bytes : Nat) (s x : Value) : Option (Value × Heap) :=
 match s with
 | .slice a n c =>
   if c = n then hAppFull hp sz bytes s x
   else
   (hRead hp sz x).bind fun new =>
   if lenV x = 0 then some (.slice a n c, hp)
   else if 0 < n /\ (n + lenV x) * bytes <= 140737488355328 then
    (hRead hp sz s).bind fun old =>
    match a with
    | some ⟨b, o, none⟩ => (blkAt hp b).bind fun k =>
      if k.md = .rw then some (newSl hp (n + lenV x) (n + lenV x + 1), useUp hp b k (o + n * sz) ++ [⟨old ++ new, sz, .rw, k.fam, k.pl⟩]) else none
    | _ => none
   else none
 | _ => none
def asBytes : List Value -> Option (List UInt8)
 | [] => some []
 | .int .u8 n :: l => (asBytes l).map fun r => UInt8.ofNat n.toNat :: r
 | _ :: _ => none
def hB2S (hp : Heap) (x : Value) : Option Value :=
 match x with
 | .slice a n c => (hRead hp 1 (.slice a n c)).bind fun cs => (asBytes cs).map fun bs => .string ⟨bs.toArray⟩
 | _ => none
def rep (n : Nat) (l : List Value) : List Value := match n with | 0 => [] | n + 1 => l ++ rep n l
def mkLen (bytes : Nat) (l c : Value) : Option (Nat × Nat) :=
 match l, c with
 | .int .i64 l, .int .i64 c => if 0 <= l /\ l <= c /\ c.toNat * bytes <= 140737488355328 /\ c <= 9223372036854775807 then some (l.toNat, c.toNat) else none
 | _, _ => none
structure Ctx where
 ng : Nat
 tab : List (Nat × TI)
 fn : FuncId -> Option Func
 ann : FuncId -> Ann
 kind : FuncId -> Nat
 ext : Nat -> List Value -> Option Value
 call : FuncId -> List Value -> Heap -> Option (Value × Heap)
 lp : (List Value -> Heap -> Option (Option Nat × List Value × Heap)) -> List Value -> Heap -> Option (Nat × List Value × Heap)
noncomputable def qcall (call : FuncId -> List Value -> Heap -> Option (Value × Heap)) (f : FuncId) (args : List Value) (hp : Heap) : Option Value :=
 (call f args hp).bind fun r => @ite _ (r.2.take hp.length = hp /\ scalarV r.1 = true) (Classical.propDecidable _) (some r.1) none
noncomputable def acall (call : FuncId -> List Value -> Heap -> Option (Value × Heap)) (f : FuncId) (args : List Value) (hp : Heap) : Option (Value × Heap) :=
 (call f args hp).bind fun r => @ite _ (r.2.take hp.length = hp) (Classical.propDecidable _) (some r) none
def callee (f : Value) : Option (FuncId × List Value) :=
 match f with | .func (.func f) first caps => if first.size = 0 then some (f, caps.toList) else none | _ => none
section
variable {R : Type} (X : Ctx) (A : Ann)
def evK (st : St) (x : Operand) (K : EV -> Option R) : Option R :=
 match x with
 | .tmp t => (match look st.env t with | some e => K e | none => none)
 | .const v => (match pureV v with | true => K (.val v) | false => none)
 | .global g => (match Nat.blt g X.ng with | true => K (.val (.pointer (some ⟨g, 0, none⟩))) | false => none)
 | .func f => K (.val (.func (.func f) #[] #[]))
def vaK (st : St) (x : Operand) (K : Value -> Option R) : Option R :=
 evK X st x fun e => match e with | .val v => K v | _ => none
def vasK (st : St) : List Operand -> (List Value -> Option R) -> Option R
 | [], K => K []
 | x :: xs, K => vaK X st x fun v => vasK st xs fun vs => K (v :: vs)
def voK (st : St) (x : Option Operand) (K : Option Value -> Option R) : Option R :=
 match x with | none => K none | some x => vaK X st x fun v => K (some v)
def partsK (st : St) (place : Nat -> Option (Nat × Nat × Bool)) : List (Nat × Operand) -> List Value -> (List Value -> Option R) -> Option R
 | [], cells, K => K cells
 | (i, x) :: rest, cells, K =>
   match place i with
   | none => none
   | some (off, n, agg) => match Nat.ble (off + n) cells.length with
     | true => vaK X st x fun v => cellsK agg n v fun cs => partsK st place rest (setSeg cells off cs) K
     | false => none
noncomputable def opK (o : Oper) (st : St) (K : EV -> List (Nat × List Value) -> Heap -> Cls -> Option R) : Option R :=
 let pv : Value -> Option R := fun v => K (.val v) st.loc st.hp .P
 match o.op with
 | .move x | .assign x => evK X st x fun e => K e st.loc st.hp .P
 | .pick c a b => vaK X st c fun vc => evK X st a fun ea => evK X st b fun eb =>
   match ea, eb with
   | .val va, .val vb => (vPick vc va vb).bind pv
   | .skp, .val vb => ifV vc none (pv vb)
   | .val va, .skp => ifV vc (pv va) none
   | _, _ => none
 | .alloc elem => match look X.tab elem, o.dst with
   | some ti, some d => (match mem A.loc d with
     | true => (match look st.loc d with | none => K (.loc d 0) ((d, ti.zero) :: st.loc) st.hp (.N d) | some _ => none)
     | false => K (.val (.pointer (some ⟨st.hp.length, 0, none⟩))) st.loc (st.hp ++ [⟨ti.zero, ti.size, .rw, st.hp.length, true⟩]) .A)
   | _, _ => none
 | .box elem x => match look X.tab elem, o.dst with
   | some ti, some d => vaK X st x fun v => cellsK ti.agg ti.size v fun cs => (match mem A.loc d with
     | true => (match look st.loc d with | none => K (.loc d 0) ((d, cs) :: st.loc) st.hp (.N d) | some _ => none)
     | false => K (.val (.pointer (some ⟨st.hp.length, 0, none⟩))) st.loc (st.hp ++ [⟨cs, ti.size, .rw, st.hp.length, true⟩]) .A)
   | _, _ => none
 | .build t parts => match look X.tab t with
   | some { k := .struct fs, zero := z, .. } => partsK X st (fun i => fs[i]?) parts.toList z fun cs => pv (.agg cs.toArray)
   | some { k := .arr n esz, zero := z, .. } => partsK X st (arrP n esz) parts.toList z fun cs => pv (.agg cs.toArray)
   | _ => none
 | .buildSlice t len parts => match look X.tab t with
   | some { k := .slice e esz _ z, .. } => match look X.tab e with
     | some te => match Nat.ble (len * esz) 16777216 with
       | true => partsK X st (fun i => some (i * esz, esz, te.agg)) parts.toList (rep len z) fun cs =>
         K (.val (newSl st.hp len len)) st.loc (st.hp ++ [⟨cs, esz, .rw, st.hp.length, true⟩]) .A
       | false => none
     | none => none
   | _ => none
 | .load t x => match look X.tab t with
   | some ti => evK X st x fun e => match e with
     | .loc k off => (match look st.loc k with
       | some cs => (match ti.agg with
         | true => (cut cs off ti.size).bind fun cs' => K (.val (.agg cs'.toArray)) st.loc st.hp (.L k)
         | false => (cs[off]?).bind fun v => K (.val v) st.loc st.hp (.L k))
       | none => none)
     | .val p => (hLoad st.hp ti.agg ti.size p).bind fun v => K (.val v) st.loc st.hp .H
     | .skp => none
   | none => none
 | .store t x y => match look X.tab t with
   | some ti => evK X st x fun e => vaK X st y fun v => cellsK ti.agg ti.size v fun cs => match e with
     | .loc k off => (match look st.loc k with
       | some old => (match Nat.ble (off + cs.length) old.length with
         | true => K .skp (setL st.loc k (setSeg old off cs)) st.hp (.S k)
         | false => none)
       | none => none)
     | .val p => (hStore st.hp p cs).bind fun hp' => K .skp st.loc hp' .W
     | .skp => none
   | none => none
 | .nilCheck x => evK X st x fun e => match e with
   | .loc k off => K (.loc k off) st.loc st.hp .P
   | .val v => (vNil v).bind pv
   | .skp => none
 | .binOp op t x y _ => match look X.tab t with
   | some ti => vaK X st x fun a => vaK X st y fun b => (vBin ti.k op a b).bind pv
   | none => none
 | .unOp op _ x => vaK X st x fun a => (vUn op a).bind pv
 | .convert src dst x => match look X.tab src, look X.tab dst with
   | some ts, some td => vaK X st x fun v => match td.k, ts.k with
     | .int k, .int _ => (vConvI k v).bind pv
     | .str, .str => (vStr v).bind pv
     | .slice _ _ _ _, .str => match td.k, v with
       | .slice e _ _ _, .string s => (match look X.tab e with
         | some { k := .int .u8, .. } => K (.val (newSl st.hp s.size (s.size + 1))) st.loc (st.hp ++ [⟨bytesV s, 1, .rw, st.hp.length, false⟩]) .A
         | _ => none)
       | _, _ => none
     | .str, .slice e _ _ _ => (match look X.tab e with
      | some { k := .int .u8, .. } => (hB2S st.hp v).bind fun s => K (.val s) st.loc st.hp .H
      | _ => none)
     | _, _ => none
   | _, _ => none
 | .makeFunc fn first captured => match first.size with
   | 0 => vasK X st captured.toList fun vs => pv (.func fn #[] vs.toArray)
   | _ => none
 | .makeSlice t l c => match look X.tab t with
   | some { k := .slice _ esz ebytes z, .. } => vaK X st l fun vl => vaK X st c fun vc => (mkLen ebytes vl vc).bind fun n =>
     K (.val (newSl st.hp n.1 (mkCap (n.1 = n.2) n.1))) st.loc (st.hp ++ [⟨rep n.2 z, esz, .rw, st.hp.length, true⟩]) .A
   | _ => none
 | .slice t x lo hi mx => match look X.tab t with
   | some { k := .str, .. } => vaK X st x fun v => voK X st lo fun l => voK X st hi fun h => match mx with | none => (vSliceS v l h).bind pv | some _ => none
   | some { k := .slice _ esz _ _, .. } => vaK X st x fun v => voK X st lo fun l => voK X st hi fun h => voK X st mx fun m => (vSliceV st.hp esz v l h m).bind pv
   | some { k := .arr n esz, .. } => match lo, hi, mx with
     | none, none, none => vaK X st x fun v => (vSliceA st.hp n esz v).bind fun v => K (.val v) st.loc st.hp .H
     | _, _, _ => none
   | _ => none
 | .fieldAddr t x f => match look X.tab t with
   | some { k := .struct fs, .. } => (match fs[f]? with
     | some (off, _, _) => evK X st x fun e => match e with
       | .loc k o => K (.loc k (o + off)) st.loc st.hp .P
       | .val p => (vOff p off).bind pv
       | .skp => none
     | none => none)
   | _ => none
 | .field t x f => match look X.tab t with
   | some { k := .struct fs, size := n, .. } => (match fs[f]? with
     | some (off, m, agg) => vaK X st x fun v => (aggN n v).bind fun cs => match agg with
       | true => (cut cs off m).bind fun c => pv (.agg c.toArray)
       | false => (cs[off]?).bind pv
     | none => none)
   | _ => none
 | .indexAddr t x i => match look X.tab t with
   | some { k := .slice _ esz _ _, .. } => vaK X st x fun v => vaK X st i fun j => (vIdx esz v j).bind pv
   | some { k := .arr n esz, .. } => vaK X st x fun v => vaK X st i fun j => (vIdxA n esz v j).bind pv
   | _ => none
 | .index t x i => match look X.tab t with
   | some { k := .str, .. } => vaK X st x fun v => vaK X st i fun j => (vIndexS v j).bind pv
   | some { k := .arr n esz, .. } => vaK X st x fun v => vaK X st i fun j => (vIndexR n esz v j).bind pv
   | _ => none
 | .extract x i => vaK X st x fun v => (vExt v i).bind pv
 | .call c => match c.callee with
   | .builtin .len => match c.args.toList, c.argTypes.toList with
     | [x], [t] => (match look X.tab t with
       | some { k := .str, .. } => vaK X st x fun v => (vLenS v).bind pv
       | some { k := .slice .., .. } => vaK X st x fun v => (vLenV v).bind pv
       | _ => none)
     | _, _ => none
   | .builtin .min => match c.args.toList with
     | [x, y] => vaK X st x fun a => vaK X st y fun b => (vMin a b).bind pv
     | _ => none
   | .builtin .append => match c.args.toList, c.argTypes.toList, o.dst with
     | [x, y], [t, u], some d => match look X.tab t, look X.tab u with
       | some { k := .slice _ esz ebytes _, .. }, some { k := .slice .., .. } => vaK X st x fun s => vaK X st y fun v => (vSl v).bind fun v => match mem A.full d with
         | true => (hAppFull st.hp esz ebytes s v).bind fun r => K (.val r.1) st.loc r.2 .A
         | false => (hApp st.hp esz ebytes s v).bind fun r => K (.val r.1) st.loc r.2 .W
       | some { k := .slice _ esz ebytes _, .. }, some { k := .str, .. } => vaK X st x fun s => vaK X st y fun v => (vStr v).bind fun v => match mem A.full d with
         | true => (hAppFull st.hp esz ebytes s v).bind fun r => K (.val r.1) st.loc r.2 .A
         | false => (hApp st.hp esz ebytes s v).bind fun r => K (.val r.1) st.loc r.2 .W
       | _, _ => none
     | _, _, _ => none
   | .value (.func f) => vasK X st c.args.toList fun vs => match X.kind f with
     | 0 => (X.call f vs st.hp).bind fun r => K (.val r.1) st.loc r.2 .W
     | 1 => (qcall X.call f vs st.hp).bind fun v => K (.val v) st.loc st.hp .H
     | 2 => (acall X.call f vs st.hp).bind fun r => K (.val r.1) st.loc r.2 .A
     | n + 3 => (X.ext n vs).bind pv
   | .value x => vaK X st x fun fv => vasK X st c.args.toList fun vs => (callee fv).bind fun p => match A.dynQ with
     | true => (qcall X.call p.1 (vs ++ p.2) st.hp).bind fun v => K (.val v) st.loc st.hp .H
     | false => (X.call p.1 (vs ++ p.2) st.hp).bind fun r => K (.val r.1) st.loc r.2 .W
   | _ => none
 | _ => none
def dstOf (ops : Array Oper) (j : Nat) : Option Nat := (ops[j]?).bind (·.dst)
def guardK (ops : Array Oper) (o : Oper) (env : List (Nat × EV)) (run pass : List (Nat × EV) -> Option R) : Option R :=
 match o.guard with
 | none => run env
 | some (j, want) => match dstOf ops j with
   | none => none
   | some d => match look env d with
     | some (.val v) => (match want with
       | true => ifV v (run ((d, .val (.bool true)) :: env)) (pass ((d, .val (.bool false)) :: env))
       | false => ifV v (pass ((d, .val (.bool true)) :: env)) (run ((d, .val (.bool false)) :: env)))
     | some .skp => pass env
     | _ => none
noncomputable def regK (ops : Array Oper) : List Oper -> List Cls -> St -> (List Cls -> St -> Option R) -> Option R
 | [], cl, st, K => K cl st
 | o :: os, cl, st, K => guardK ops o st.env
   (fun env => opK X A o { st with env := env } fun e loc hp c => regK ops os (c :: cl) ⟨putE env o.dst e, loc, hp⟩ K)
   (fun env => regK ops os (.P :: cl) ⟨putE env o.dst .skp, st.loc, st.hp⟩ K)
def valsK (env : List (Nat × EV)) : List Nat -> (List Value -> Option R) -> Option R
 | [], K => K []
 | s :: ss, K => match look env s with | some (.val v) => valsK env ss fun vs => K (v :: vs) | _ => none
def lsOk (env : List (Nat × EV)) : List (Nat × Nat × Nat) -> Bool
 | [] => true
 | (s, k, o) :: l => match look env s with
   | some (.loc k' o') => Nat.beq k k' && Nat.beq o o' && lsOk env l
   | _ => false
def csK (loc : List (Nat × List Value)) : List (Nat × Nat) -> (List Value -> Option R) -> Option R
 | [], K => K []
 | (k, n) :: l, K => match look loc k with | some cs => (match Nat.beq cs.length n with | true => csK loc l fun vs => K (cs ++ vs) | false => none) | none => none
def saveK (kp : Keep) (st : St) (K : List Value -> Heap -> Option R) : Option R :=
 match lsOk st.env kp.ls with
 | true => valsK st.env kp.vs fun vs => csK st.loc kp.cs fun cs => K (vs ++ cs) st.hp
 | false => none
def total : List (Nat × Nat) -> Nat
 | [] => 0
 | (_, n) :: l => n + total l
def envOf : Nat -> List Nat -> List Value -> List (Nat × EV)
 | _, [], _ => []
 | i, s :: ss, vs => (s, .val (vs.getD i undef)) :: envOf (i + 1) ss vs
def locOf : Nat -> List (Nat × Nat) -> List Value -> List (Nat × List Value)
 | _, [], _ => []
 | i, (k, n) :: l, vs => (k, tabl i n vs) :: locOf (i + n) l vs
def lsOf : List (Nat × Nat × Nat) -> List (Nat × EV)
 | [] => []
 | (s, k, o) :: l => (s, .loc k o) :: lsOf l
def hasK : List (Nat × Nat × Nat) -> List (Nat × Nat) -> Bool
 | [], _ => true
 | (_, k, _) :: l, cs => (match look cs k with | some _ => true | none => false) && hasK l cs
def keepOk (kp : Keep) : Bool := hasK kp.ls kp.cs && (kp.cs.map (·.1)).Nodup
def loadK (kp : Keep) (vs : List Value) (hp : Heap) (K : St -> Option R) : Option R :=
 match keepOk kp with
 | true => if vs.length = kp.vs.length + total kp.cs then K ⟨lsOf kp.ls ++ envOf 0 kp.vs vs, locOf kp.vs.length kp.cs vs, hp⟩ else none
 | false => none
def exitB : Exit -> Exit -> Bool
 | .normal, .normal => true
 | .ret, .ret => true
 | .exit a, .exit b => Nat.beq a b
 | _, _ => false
def outK (outs : List (Exit × Keep)) (e : Exit) (st : St) (K : Nat -> List Value -> Heap -> Option R) : Option R :=
 match outs with
 | [] => none
 | (x, kp) :: l => match exitB x e with
   | true => saveK kp st fun vs hp => K 0 vs hp
   | false => outK l e st fun n vs hp => K (n + 1) vs hp
def inK (outs : List (Exit × Keep)) (n : Nat) (vs : List Value) (hp : Heap) (K : Exit -> St -> Option R) : Option R :=
 match outs with
 | [] => none
 | (x, kp) :: l => match n with
   | 0 => loadK kp vs hp fun st => K x st
   | n + 1 => inK l n vs hp K
def firstR : Code -> Nat
 | .region id _ _ => id
 | .seq a _ => firstR a
 | .cond _ a _ => firstR a
 | .block _ a => firstR a
 | .loop a => firstR a
 | .ret => 1000000
 | _ => 1000001
def joinOf : List (Nat × Nat × List (Exit × Keep)) -> Nat -> Nat -> Option (List (Exit × Keep))
 | [], _, _ => none
 | (a, b, o) :: l, x, y => match Nat.beq a x && Nat.beq b y with | true => some o | false => joinOf l x y
def isReg : Code -> Bool
 | .region .. => true
 | _ => false
end
def befA (acc : List Nat) : List Edge -> Nat
 | [] => 0
 | e :: es => match Region.binds .any e with
   | true => befA acc es ||| 2 ^ e.on ||| acc.getD e.on 0
   | false => befA acc es
def befL : List Oper -> List Nat -> List Nat
 | [], acc => acc
 | o :: os, acc => befL os (acc ++ [befA acc o.after.toList])
def apartB (ops : Array Oper) (i j : Nat) : Bool :=
 match ops[i]?, ops[j]? with
 | some a, some b => a.apart ops b
 | _, _ => false
def free2 : Cls -> Cls -> Bool
 | .P, _ | _, .P => true
 | .L k, .S k' | .S k, .L k' | .S k, .S k' | .N k, .N k' | .N k, .S k' | .S k, .N k' | .N k, .L k' | .L k, .N k' => !Nat.beq k k'
 | .L _, _ | _, .L _ | .S _, _ | _, .S _ | .N _, _ | _, .N _ => true
 | .W, _ | _, .W => false
 | _, _ => true
def isN : Cls -> Bool
 | .N _ => true
 | _ => false
def edgesOk (ops : Array Oper) : Bool := ops.toList.zipIdx.all fun (o, i) => o.after.all fun e => !Region.binds .any e || decide (e.on < i)
def orderOk (ops : Array Oper) (cl : List Cls) : Bool :=
 edgesOk ops && Nat.beq cl.length ops.size &&
 (List.range ops.size).all fun j => (List.range j).all fun i =>
  ((befL ops.toList []).getD j 0).testBit i || (apartB ops i j && free2 (cl.getD i .W) (cl.getD j .W))
section
variable (X : Ctx) (A : Ann)
noncomputable def codeK : Code -> {R : Type} -> St -> (Exit -> St -> Option R) -> Option R
 | .skip, _, st, K => K .normal st
 | .region _ ops draw, _, st, K => match draw with
   | false => regK X A ops ops.toList [] st fun _ st => K .normal st
   | true => regK X A ops ops.toList [] st fun cl st => match orderOk ops cl.reverse with | true => K .normal st | false => none
 | .seq a b, _, st, K => match (match isReg a with | true => none | false => joinOf A.joins (firstR a) (firstR b)) with
   | none => codeK a st fun e st => match e with | .normal => codeK b st K | e => K e st
   | some outs => (codeK a st fun e st => outK outs e st fun n vs hp => some (n, vs, hp)).bind fun r =>
     inK outs r.1 r.2.1 r.2.2 fun e st => match e with | .normal => codeK b st K | e => K e st
 | .cond c a b, _, st, K => vaK X st c fun v => ifV v (codeK a st K) (codeK b st K)
 | .block id a, _, st, K => codeK a st fun e st => match e with
   | .exit i => (match Nat.beq i id with | true => K .normal st | false => K (.exit i) st)
   | e => K e st
 | .loop a, _, st, K => match look A.loops (firstR a) with
   | none => none
   | some li => saveK li.ks st fun vs hp =>
     (X.lp (fun vs hp => loadK li.ks vs hp fun st => codeK a st fun e st => match e with
      | .normal => saveK li.ks st fun vs hp => some (none, vs, hp)
      | e => outK li.outs e st fun n vs hp => some (some n, vs, hp)) vs hp).bind fun r =>
     inK li.outs r.1 r.2.1 r.2.2 K
 | .exit id, _, st, K => K (.exit id) st
 | .ret, _, st, K => K .ret st
 | _, _, _, _ => none
variable {R : Type}
def resK (rs : List ResultVar) (st : St) (K : List Value -> Option R) : Option R :=
 match rs with
 | [] => K []
 | .tmp t :: l => (match look st.env t with | some (.val v) => resK l st fun vs => K (v :: vs) | _ => none)
 | .cell a t :: l => match look X.tab t with
   | some ti => (match look st.env a with
     | some (.loc k 0) => (match look st.loc k with
       | some cs => (match Nat.beq cs.length ti.size with
         | true => (match ti.agg with
           | true => resK l st fun vs => K (.agg cs.toArray :: vs)
           | false => (match cs with | [v] => resK l st fun vs => K (v :: vs) | _ => none))
         | false => none)
       | none => none)
     | some (.val p) => (hLoad st.hp ti.agg ti.size p).bind fun v => resK l st fun vs => K (v :: vs)
     | _ => none)
   | none => none
def argsE : Nat -> List Value -> List (Nat × EV)
 | _, [] => []
 | i, v :: vs => (i, .val v) :: argsE (i + 1) vs
def one : List Value -> Value
 | [v] => v
 | vs => .tuple vs.toArray
def dstR (n : Nat) : List Oper -> Bool
 | [] => true
 | o :: os => (match o.dst with | none => true | some d => Nat.blt d n) && dstR n os
def dstC (n : Nat) : Code -> Bool
 | .region _ ops _ => dstR n ops.toList
 | .seq a b => dstC n a && dstC n b
 | .cond _ a b => dstC n a && dstC n b
 | .block _ a => dstC n a
 | .loop a => dstC n a
 | _ => true
noncomputable def bodyK (f : FuncId) (args : List Value) (hp : Heap) : Option (Value × Heap) :=
 match X.fn f with
 | none => none
 | some fn => match fn.body with
   | none => none
   | some c => match dstC fn.ntmps c with
     | true => codeK X (X.ann f) c ⟨argsE 0 args, [], hp⟩ fun e st => (match e with
       | .normal | .ret => resK X fn.results.toList st fun vs => some (one vs, st.hp)
       | _ => none)
     | false => none
end
end Go.AM

/- The abstract machine's values, heap and locals, and what stands for them in the world. -/
namespace Go.AM
set_option linter.unusedSimpArgs false
set_option linter.unusedVariables false
structure Img where
 blk : Nat
 off : Nat
 room : Nat
 sz : Nat
abbrev Inj := Nat -> Option Img
inductive VR (ι : Inj) : Value -> Value -> Prop
 | bool (b : Bool) : VR ι (.bool b) (.bool b)
 | int (k : IntKind) (n : Int) : VR ι (.int k n) (.int k n)
 | str (s : ByteArray) : VR ι (.string s) (.string s)
 | nilp : VR ι (.pointer none) (.pointer none)
 | ptr {b o : Nat} {x : Img} : ι b = some x -> VR ι (.pointer (some ⟨b, o, none⟩)) (.pointer (some ⟨x.blk, x.off + o, none⟩))
 | nils : VR ι (.slice none 0 0) (.slice none 0 0)
 | slc {b o n c c' : Nat} {x : Img} : ι b = some x -> 0 < n -> n <= c' -> (c = n -> c' = n) -> o + c' * x.sz <= x.room →
  VR ι (.slice (some ⟨b, o, none⟩) n c) (.slice (some ⟨x.blk, x.off + o, none⟩) n c')
 | slz (a a' : Addr) (c c' : Nat) : (c = 0 -> c' = 0) -> VR ι (.slice (some a) 0 c) (.slice (some a') 0 c')
 | agg {cs cs' : Array Value} : cs.size = cs'.size -> (∀ (i : Nat) (v v' : Value), cs[i]? = some v -> cs'[i]? = some v' -> VR ι v v') →
  (∀ (i : Nat) (v : Value), cs[i]? = some v -> v.oneCell' = true) -> VR ι (.agg cs) (.agg cs')
 | tuple {cs cs' : Array Value} : cs.size = cs'.size -> (∀ (i : Nat) (v v' : Value), cs[i]? = some v -> cs'[i]? = some v' -> VR ι v v') →
  VR ι (.tuple cs) (.tuple cs')
 | fn {f : Fn} {cs cs' : Array Value} : cs.size = cs'.size -> (∀ (i : Nat) (v v' : Value), cs[i]? = some v -> cs'[i]? = some v' -> VR ι v v') →
  VR ι (.func f #[] cs) (.func f #[] cs')
 | nilf : VR ι .nilFunc .nilFunc
inductive ER (ι : Inj) (ρ : Nat -> Nat) : EV -> Value -> Prop
 | val {v v' : Value} : VR ι v v' -> ER ι ρ (.val v) v'
 | loc (k o : Nat) : ER ι ρ (.loc k o) (.pointer (some ⟨ρ k, o, none⟩))
 | skp : ER ι ρ .skp undef
def Sub (ι ι' : Inj) : Prop := ∀ b x, ι b = some x -> ι' b = some x
theorem Sub.refl (ι : Inj) : Sub ι ι := fun _ _ h => h
theorem Sub.trans {a b c : Inj} (h : Sub a b) (k : Sub b c) : Sub a c := fun _ _ e => k _ _ (h _ _ e)
theorem VR.mono {ι ι' : Inj} (hs : Sub ι ι') {v v' : Value} (h : VR ι v v') : VR ι' v v' := by
 induction h with
 | bool b => exact .bool b
 | int k n => exact .int k n
 | str s => exact .str s
 | nilp => exact .nilp
 | ptr h => exact .ptr (hs _ _ h)
 | nils => exact .nils
 | slc h a b c d => exact .slc (hs _ _ h) a b c d
 | slz a a' c c' h => exact .slz a a' c c' h
 | agg h _ h1 ih => exact .agg h ih h1
 | tuple h _ ih => exact .tuple h ih
 | fn h _ ih => exact .fn h ih
 | nilf => exact .nilf
theorem VR.back {ι ι' : Inj} (hs : Sub ι ι') {v x : Value} (h : VR ι v x) : ∀ {y : Value}, VR ι' v y -> VR ι v y := by
 induction h with
 | bool b => intro y h; cases h; exact .bool b
 | int k n => intro y h; cases h; exact .int k n
 | str s => intro y h; cases h; exact .str s
 | nilp => intro y h; cases h; exact .nilp
 | ptr h => intro y h'; cases h' with | ptr h' => rw [hs _ _ h] at h'; cases h'; exact .ptr h
 | nils => intro y h; cases h; exact .nils
 | slc h a b c d => intro y h'; cases h' with
   | slc h' a' b' c' d' => rw [hs _ _ h] at h'; cases h'; exact .slc h a' b' c' d'
   | slz => omega
 | slz a a' c c' h => intro y h'; cases h' with
   | slc h' a' => omega
   | slz _ _ _ _ h' => exact .slz _ _ _ _ h'
 | @agg cs cs' hz _ h1 ih => intro y h'; cases h' with
   | @agg _ cs'' hz' hc h1' =>
     refine .agg hz' (fun i v v' e e' => ?_) h1
     have hi : i < cs'.size := by rw [<- hz]; exact (Array.getElem?_eq_some_iff.1 e).1
     exact ih i v cs'[i] e (Array.getElem?_eq_getElem hi) (hc i v v' e e')
 | @tuple cs cs' hz _ ih => intro y h'; cases h' with
   | @tuple _ cs'' hz' hc =>
     refine .tuple hz' (fun i v v' e e' => ?_)
     have hi : i < cs'.size := by rw [<- hz]; exact (Array.getElem?_eq_some_iff.1 e).1
     exact ih i v cs'[i] e (Array.getElem?_eq_getElem hi) (hc i v v' e e')
 | @fn f cs cs' hz _ ih => intro y h'; cases h' with
   | @fn _ _ cs'' hz' hc =>
     refine .fn hz' (fun i v v' e e' => ?_)
     have hi : i < cs'.size := by rw [<- hz]; exact (Array.getElem?_eq_some_iff.1 e).1
     exact ih i v cs'[i] e (Array.getElem?_eq_getElem hi) (hc i v v' e e')
 | nilf => intro y h; cases h; exact .nilf
theorem ER.mono {ι ι' : Inj} {ρ : Nat -> Nat} (hs : Sub ι ι') {e : EV} {v : Value} (h : ER ι ρ e v) : ER ι' ρ e v := by
 cases h with
 | val h => exact .val (h.mono hs)
 | loc k o => exact .loc k o
 | skp => exact .skp
theorem VR.one {ι : Inj} {v v' : Value} (h : VR ι v v') (h1 : v.oneCell' = true) : v'.oneCell' = true := by
 cases h <;> first | rfl | exact h1
def CellsR (ι : Inj) (cells : List Value) (cs : Array Value) (off : Nat) : Prop :=
 ∀ (i : Nat) (v : Value), cells[i]? = some v -> v.oneCell' = true /\ ∃ v', cs[off + i]? = some v' /\ VR ι v v'
theorem CellsR.mono {ι ι' : Inj} (hs : Sub ι ι') {cells : List Value} {cs : Array Value} {off : Nat} (h : CellsR ι cells cs off) : CellsR ι' cells cs off :=
 fun i v e => ⟨(h i v e).1, let ⟨v', a, b⟩ := (h i v e).2; ⟨v', a, b.mono hs⟩⟩
def NoFr (pl : Bool) (n : Nat) (fr : Nat × Nat) : Prop := fr.2 <= fr.1 ∨ (n <= fr.1 /\ pl = false)
def BlkR (ι : Inj) (x : Img) (k : Blk) (w : World) (B : Nat) : Prop :=
 ∃ cs el fr, w.heap[x.blk]? = some (.cells cs el fr) /\ cs.size = x.off + x.room /\ k.cells.length <= x.room ∧
   CellsR ι k.cells cs x.off /\ (k.md = .rw -> NoFr k.pl cs.size fr /\ B <= x.blk)
def GOk (ng : Nat) (ι : Inj) : Prop := ∀ g, g < ng -> ∃ x, ι g = some x /\ x.blk = g /\ x.off = 0
def SzOk (ι : Inj) (hp : Heap) : Prop := ∀ b x k, ι b = some x -> hp[b]? = some k -> k.sz = x.sz
structure Rel (ng : Nat) (ι : Inj) (hp : Heap) (w : World) (B : Nat) : Prop where
 glob : GOk ng ι
 szs : SzOk ι hp
 dom : ∀ b x, ι b = some x -> b < hp.length
 base : B <= w.heap.size
 ok : ∀ b x k, ι b = some x -> blkAt hp b = some k -> BlkR ι x k w B
 sep : ∀ b x k b' x' k', ι b = some x -> blkAt hp b = some k -> k.md = .rw -> ι b' = some x' -> blkAt hp b' = some k' -> x.blk = x'.blk -> b = b' ∨ (b' < b /\ k'.md = .ro /\ k'.fam = k.fam /\ x'.off + k'.cells.length <= x.off + k.cells.length)
structure Fr (ι : Inj) (hp : Heap) (w w' : World) : Prop where
 os : w'.os = w.os
 tape : w'.tape = w.tape
 output : w'.output = w.output
 size : w.heap.size <= w'.heap.size
 block : ∀ j, j < w.heap.size -> (∀ b x k, ι b = some x -> blkAt hp b = some k -> k.md = .rw -> x.blk ≠ j) -> w'.heap[j]? = w.heap[j]?
def Own (ι : Inj) (hp : Heap) (w : World) (ι' : Inj) (hp' : Heap) : Prop :=
 ∀ b x k, ι' b = some x -> blkAt hp' b = some k -> x.blk < w.heap.size -> ∃ b0 x0 k0, ι b0 = some x0 /\ blkAt hp b0 = some k0 /\ (b0 = b ∨ k0.md = .rw) /\ (k.md = .rw -> k0.md = .rw) /\ x0.blk = x.blk
def LocR (ι : Inj) (cells : List Value) (w : World) (j : Nat) : Prop :=
 ∃ cs el fr, w.heap[j]? = some (.cells cs el fr) /\ cs.size = cells.length /\ NoFr false cs.size fr /\ CellsR ι cells cs 0
theorem blkAt_some {hp : Heap} {b : Nat} {k : Blk} (h : blkAt hp b = some k) : hp[b]? = some k /\ k.md ≠ .gone /\ b < hp.length := by
 unfold blkAt at h
 cases e : hp[b]? with
 | none => rw [e] at h; cases h
 | some q =>
   rw [e] at h
   simp only [Option.bind_some] at h
   split at h
   ·cases h
   ·cases h
    exact ⟨rfl, by assumption, (List.getElem?_eq_some_iff.1 e).1⟩
theorem blkAt_mk {hp : Heap} {b : Nat} {k : Blk} (h : hp[b]? = some k) (hg : k.md ≠ .gone) : blkAt hp b = some k := by
 simp [blkAt, h, hg]
theorem blkAt_append {hp : Heap} {b : Nat} (l : Heap) (h : b < hp.length) : blkAt (hp ++ l) b = blkAt hp b := by
 simp [blkAt, List.getElem?_append_left h]
theorem look_setL {l : List (Nat × List Value)} {k j : Nat} {d : List Value} : look (setL l k d) j = if j = k then (look l j).map fun _ => d else look l j := by
 induction l with
 | nil => simp [setL, look]
 | cons p l ih =>
   obtain ⟨a, c⟩ := p
   by_cases hk : a = k
   ·subst hk
    have hb : Nat.beq a a = true := Nat.beq_refl a
    simp only [setL, hb, look]
    by_cases hj : a = j
    ·subst hj; simp [look, hb]
    ·have hj' : Nat.beq a j = false := by cases h : Nat.beq a j with | false => rfl | true => exact absurd (Nat.eq_of_beq_eq_true h) hj
     simp [look, hj', Ne.symm hj]
   ·have hb : Nat.beq a k = false := by cases h : Nat.beq a k with | false => rfl | true => exact absurd (Nat.eq_of_beq_eq_true h) hk
    simp only [setL, hb, look]
    by_cases hj : a = j
    ·subst hj
     have : Nat.beq a a = true := Nat.beq_refl a
     simp [this, hk]
    ·have hj' : Nat.beq a j = false := by cases h : Nat.beq a j with | false => rfl | true => exact absurd (Nat.eq_of_beq_eq_true h) hj
     simp only [hj']
     exact ih
theorem look_cons {α : Type} {a : Nat} {c : α} {l : List (Nat × α)} {j : Nat} : look ((a, c) :: l) j = if j = a then some c else look l j := by
 by_cases hj : a = j
 ·subst hj; have : Nat.beq a a = true := Nat.beq_refl a; simp [look, this]
 ·have hj' : Nat.beq a j = false := by cases h : Nat.beq a j with | false => rfl | true => exact absurd (Nat.eq_of_beq_eq_true h) hj
  simp [look, hj', Ne.symm hj]
def isAggD : TypeDesc -> Bool
 | .struct _ | .array _ _ => true
 | _ => false
def TKok (P : Program) (d : TypeDesc) : TK -> Prop
 | .int k => d = .int k
 | .bool => d = .bool
 | .str => d = .string
 | .slice e esz eb z => d = .slice e /\ ∃ i v, P.info? e = some i /\ i.size = esz /\ i.bytes = eb /\ i.zero = some v /\ v.cells.toList = z /\ z.length = esz /\ 0 < esz /\ 0 < eb /\ ∀ u ∈ z, pureV1 u = true
 | .struct fs => ∃ fields, d = .struct fields /\ fields.size = fs.length ∧
  ∀ (i off n : Nat) (agg : Bool), fs[i]? = some (off, n, agg) -> ∃ (f : Field) (g : TypeInfo) (u : TypeDesc), fields[i]? = some f /\ f.offset = off /\ P.info? f.type = some g /\ g.size = n /\ 0 < n ∧
    P.underlying f.type = some u /\ isAggD u = agg /\ (agg = false -> n = 1)
 | .arr n esz => ∃ e i, d = .array n e /\ P.info? e = some i /\ i.size = esz /\ ∃ u, P.underlying e = some u /\ (esz = 1 -> isAggD u = false)
 | .other => True
structure TIok (P : Program) (t : TypeId) (ti : TI) : Prop where
 info : ∃ i v, P.info? t = some i /\ i.size = ti.size /\ i.zero = some v /\ v.cells.toList = ti.zero /\ ti.zero.length = ti.size /\ ∀ u ∈ ti.zero, pureV1 u = true
 und : ∃ d, P.underlying t = some d /\ isAggD d = ti.agg /\ TKok P d ti.k
 sz : ti.agg = false -> ti.size = 1
theorem pureV1_one {v : Value} (h : pureV1 v = true) : v.oneCell' = true := by
 unfold pureV1 at h
 split at h <;> first | rfl | cases h
theorem pureV1_VR {ι : Inj} {v : Value} (h : pureV1 v = true) : VR ι v v := by
 unfold pureV1 at h
 split at h <;> first | exact .bool _ | exact .int _ _ | exact .str _ | exact .nilp | exact .nils | exact .nilf | cases h
theorem pureV_VR {ι : Inj} {v : Value} (h : pureV v = true) : VR ι v v := by
 unfold pureV at h
 split at h
 ·rename_i cs
  have hall : ∀ (i : Nat) (u : Value), cs[i]? = some u -> pureV1 u = true := fun i u e => by
   obtain ⟨hi, rfl⟩ := Array.getElem?_eq_some_iff.1 e
   simp only [Array.all_eq_true] at h
   exact h i hi
  exact .agg rfl (fun i v v' e e' => by rw [e] at e'; cases e'; exact pureV1_VR (hall i v e)) fun i v e => pureV1_one (hall i v e)
 ·exact pureV1_VR h
end Go.AM

/- Each operation of the abstract machine stands for what the world does: operands, and the operations that do nothing to memory. -/
namespace Go.AM
set_option linter.unusedSimpArgs false
set_option linter.unusedVariables false
inductive Ev (X : Ctx) (st : St) : Operand -> EV -> Prop
 | tmp {t : Tmp} {e : EV} : look st.env t = some e -> Ev X st (.tmp t) e
 | const {v : Value} : pureV v = true -> Ev X st (.const v) (.val v)
 | glob {g : Nat} : g < X.ng -> Ev X st (.global g) (.val (.pointer (some ⟨g, 0, none⟩)))
 | func (f : FuncId) : Ev X st (.func f) (.val (.func (.func f) #[] #[]))
def OperR (X : Ctx) (ι : Inj) (ρ : Nat -> Nat) (st : St) (a : Act) (o : Oper) : Prop :=
 GOk X.ng ι /\ SzOk ι st.hp /\ ∀ t e, Operand.tmp t ∈ o.op.operands -> look st.env t = some e -> ER ι ρ e (a.eval (.tmp t))
theorem Ev.rel {X : Ctx} {ι : Inj} {ρ : Nat -> Nat} {st : St} {a : Act} {o : Oper} {x : Operand} {e : EV} (h : Ev X st x e) (hr : OperR X ι ρ st a o) (hm : x ∈ o.op.operands) : ER ι ρ e (a.eval x) := by
 cases h with
 | tmp h => exact hr.2.2 _ _ hm h
 | const h => exact .val (pureV_VR h)
 | glob h => obtain ⟨⟨gb, go, gr, gs⟩, e, e1, e2⟩ := hr.1 _ h
             simp only at e1 e2; subst e1 e2
             exact .val (by have := VR.ptr (ι := ι) (o := 0) e; simpa [Act.eval] using this)
 | func f => exact .val (.fn rfl (fun i v v' h => by simp at h))
theorem Ev.relv {X : Ctx} {ι : Inj} {ρ : Nat -> Nat} {st : St} {a : Act} {o : Oper} {x : Operand} {v : Value} (h : Ev X st x (.val v)) (hr : OperR X ι ρ st a o) (hm : x ∈ o.op.operands) : VR ι v (a.eval x) := by
 have := h.rel hr hm
 cases this; assumption
section
variable {R : Type} {X : Ctx} {st : St} {r : R}
theorem evK_ev {x : Operand} {K : EV -> Option R} (h : evK X st x K = some r) : ∃ e, Ev X st x e /\ K e = some r := by
 cases x with
 | tmp t =>
   simp only [evK] at h
   cases e : look st.env t with
   | none => rw [e] at h; cases h
   | some e' => rw [e] at h; exact ⟨e', .tmp e, h⟩
 | const v =>
   simp only [evK] at h
   cases e : pureV v with
   | true => rw [e] at h; exact ⟨_, .const e, h⟩
   | false => rw [e] at h; cases h
 | global g =>
   simp only [evK] at h
   cases e : Nat.blt g X.ng with
   | true => rw [e] at h; exact ⟨_, .glob (by simp [Nat.blt, Nat.ble_eq] at e; omega), h⟩
   | false => rw [e] at h; cases h
 | func f => exact ⟨_, .func f, h⟩
theorem vaK_ev {x : Operand} {K : Value -> Option R} (h : vaK X st x K = some r) : ∃ v, Ev X st x (.val v) /\ K v = some r := by
 obtain ⟨e, he, hk⟩ := evK_ev h
 cases e with
 | val v => exact ⟨v, he, hk⟩
 | loc k o => cases hk
 | skp => cases hk
inductive Evs (X : Ctx) (st : St) : List Operand -> List Value -> Prop
 | nil : Evs X st [] []
 | cons {x : Operand} {v : Value} {xs : List Operand} {vs : List Value} : Ev X st x (.val v) -> Evs X st xs vs -> Evs X st (x :: xs) (v :: vs)
theorem vasK_ev : ∀ {xs : List Operand} {K : List Value -> Option R}, vasK X st xs K = some r -> ∃ vs, Evs X st xs vs /\ K vs = some r
 | [], K, h => ⟨[], .nil, h⟩
 | x :: xs, K, h => by
   obtain ⟨v, hv, h⟩ := vaK_ev h
   obtain ⟨vs, hvs, h⟩ := vasK_ev h
   exact ⟨v :: vs, .cons hv hvs, h⟩
def OptEv (X : Ctx) (st : St) : Option Operand -> Option Value -> Prop
 | none, none => True
 | some x, some v => Ev X st x (.val v)
 | _, _ => False
theorem voK_ev {x : Option Operand} {K : Option Value -> Option R} (h : voK X st x K = some r) : ∃ v, OptEv X st x v /\ K v = some r := by
 cases x with
 | none => exact ⟨none, trivial, h⟩
 | some x =>
   obtain ⟨v, hv, h⟩ := vaK_ev h
   exact ⟨some v, hv, h⟩
end
inductive VRs (ι : Inj) : List Value -> List Value -> Prop
 | nil : VRs ι [] []
 | cons {v v' : Value} {vs vs' : List Value} : VR ι v v' -> VRs ι vs vs' -> VRs ι (v :: vs) (v' :: vs')
theorem VRs.mono {ι ι' : Inj} (hs : Sub ι ι') {vs vs' : List Value} (h : VRs ι vs vs') : VRs ι' vs vs' := by
 induction h with
 | nil => exact .nil
 | cons h _ ih => exact .cons (h.mono hs) ih
theorem VRs.append {ι : Inj} {a a' b b' : List Value} (h : VRs ι a a') (k : VRs ι b b') : VRs ι (a ++ b) (a' ++ b') := by
 induction h with
 | nil => exact k
 | cons h _ ih => exact .cons h ih
theorem VRs.length {ι : Inj} {a a' : List Value} (h : VRs ι a a') : a.length = a'.length := by
 induction h with
 | nil => rfl
 | cons _ _ ih => simp [ih]
theorem VRs.get {ι : Inj} {a a' : List Value} (h : VRs ι a a') : ∀ {i : Nat} {v : Value}, a[i]? = some v -> ∃ v', a'[i]? = some v' /\ VR ι v v' := by
 induction h with
 | nil => intro i v e; simp at e
 | cons h _ ih =>
   intro i v e
   cases i with
   | zero => simp at e; subst e; exact ⟨_, by simp, h⟩
   | succ i => simp at e; simpa using ih e
theorem VRs.of_get {ι : Inj} : ∀ {a a' : List Value}, a.length = a'.length -> (∀ (i : Nat) (v v' : Value), a[i]? = some v -> a'[i]? = some v' -> VR ι v v') -> VRs ι a a'
 | [], [], _, _ => .nil
 | v :: vs, v' :: vs', hl, h => .cons (h 0 v v' (by simp) (by simp)) (VRs.of_get (by simpa using hl) fun i x y e e' => h (i + 1) x y (by simpa using e) (by simpa using e'))
 | [], _ :: _, hl, _ => by simp at hl
 | _ :: _, [], hl, _ => by simp at hl
theorem Evs.rel {X : Ctx} {ι : Inj} {ρ : Nat -> Nat} {st : St} {a : Act} {o : Oper} {xs : List Operand} {vs : List Value} (h : Evs X st xs vs) (hr : OperR X ι ρ st a o) :
 (∀ x ∈ xs, x ∈ o.op.operands) -> VRs ι vs (xs.map a.eval) := by
 induction h with
 | nil => intro _; exact .nil
 | cons h _ ih => intro hm; exact .cons (h.relv hr (hm _ (by simp))) (ih fun x hx => hm x (by simp [hx]))
def SzKeep (hp hp' : Heap) : Prop := ∀ (b : Nat) (k : Blk), hp[b]? = some k -> ∃ k' : Blk, hp'[b]? = some k' /\ k'.sz = k.sz
def ExtN (n : Nat) (ι ι' : Inj) : Prop := ∀ b, b < n -> ι' b = ι b
def Still (P : Program) (o : Oper) (a : Act) (w : World) (Y : Value -> Prop) : Prop := ∃ v', (execOp a.eval o).run P w = .ok (.value v') w /\ Y v'
def OpSpec (P : Program) (X : Ctx) (o : Oper) (st : St) (e : EV) (loc' : List (Nat × List Value)) (hp' : Heap) : Cls -> Prop
 | .P => loc' = st.loc /\ hp' = st.hp /\ (∀ k d, e = .loc k d -> ∃ t d', look st.env t = some (.loc k d') /\ Operand.tmp t ∈ o.op.operands) ∧
   ∀ ι ρ a w, OperR X ι ρ st a o -> Still P o a w (ER ι ρ e)
 | .L k => loc' = st.loc /\ hp' = st.hp /\ ∃ v cells, e = .val v /\ look st.loc k = some cells ∧
   ∀ ι ρ a w, OperR X ι ρ st a o -> LocR ι cells w (ρ k) -> Still P o a w (VR ι v)
 | .S k => e = .skp /\ hp' = st.hp /\ ∃ old cells, look st.loc k = some old /\ loc' = setL st.loc k cells /\ cells.length = old.length ∧
   ∀ ι ρ a w, OperR X ι ρ st a o -> LocR ι old w (ρ k) -> ∃ w', (execOp a.eval o).run P w = .ok .skip w' /\ LocR ι cells w' (ρ k) ∧
     w'.os = w.os /\ w'.tape = w.tape /\ w'.output = w.output /\ w'.heap.size = w.heap.size /\ ∀ j, j ≠ ρ k -> w'.heap[j]? = w.heap[j]?
 | .N k => e = .loc k 0 /\ o.dst = some k /\ hp' = st.hp /\ look st.loc k = none /\ ∃ cells, loc' = (k, cells) :: st.loc ∧
   ∀ ι ρ a w, OperR X ι ρ st a o -> ∃ obj, (execOp a.eval o).run P w = .ok (.value (.pointer (some ⟨w.heap.size, 0, none⟩))) (w.alloc obj) /\ LocR ι cells (w.alloc obj) w.heap.size
 | .H => loc' = st.loc /\ hp' = st.hp /\ ∃ v, e = .val v ∧
   ∀ ι ρ a w B Nx Q, OperR X ι ρ st a o -> Rel X.ng ι st.hp w B -> (∀ v' w', Rel X.ng ι st.hp w' B -> Fr ι st.hp w w' -> VR ι v v' -> Nx (a.put o.dst v') w') -> o.wp P a w Nx Q
 | .A => loc' = st.loc /\ (∃ new, hp' = st.hp ++ new) /\ ∃ v, e = .val v ∧
   ∀ ι ρ a w B Nx Q, OperR X ι ρ st a o -> Rel X.ng ι st.hp w B →
     (∀ ι' v' w', ExtN st.hp.length ι ι' -> (∀ b x k, st.hp.length <= b -> ι' b = some x -> blkAt hp' b = some k -> w.heap.size <= x.blk) -> Rel X.ng ι' hp' w' B -> Fr ι st.hp w w' -> VR ι' v v' -> Nx (a.put o.dst v') w') -> o.wp P a w Nx Q
 | .W => loc' = st.loc /\ SzKeep st.hp hp' /\ (∀ k d, e ≠ .loc k d) ∧
   ∀ ι ρ a w B Nx Q, OperR X ι ρ st a o -> Rel X.ng ι st.hp w B →
     (∀ ι' v' w', ExtN st.hp.length ι ι' -> Rel X.ng ι' hp' w' B -> Fr ι st.hp w w' -> Own ι st.hp w ι' hp' -> ER ι' ρ e v' -> Nx (a.put o.dst v') w') -> o.wp P a w Nx Q
theorem own_new {ng : Nat} {ι ι' : Inj} {hp new : Heap} {w : World} {B : Nat} (hR : Rel ng ι hp w B) (h1 : ExtN hp.length ι ι') (h2 : ∀ b x k, hp.length <= b -> ι' b = some x -> blkAt (hp ++ new) b = some k -> w.heap.size <= x.blk) : Own ι hp w ι' (hp ++ new) := by
 intro b x k hb hk hx
 by_cases hl : b < hp.length
 ·rw [blkAt_append _ hl] at hk
  exact ⟨b, x, k, by rw [<- h1 b hl]; exact hb, hk, .inl rfl, id, rfl⟩
 ·have := h2 b x k (by omega) hb hk; omega
theorem wp_of_run {P : Program} {o : Oper} {a : Act} {w w' : World} {v : Value} {Nx : Act -> World -> Prop} {Q : Exit -> Act -> World -> Prop}
 (h : (execOp a.eval o).run P w = .ok (.value v) w') (hn : Nx (a.put o.dst v) w') : o.wp P a w Nx Q := by
 unfold Oper.wp; rw [h]; exact hn
theorem wp_of_skip {P : Program} {o : Oper} {a : Act} {w w' : World} {Nx : Act -> World -> Prop} {Q : Exit -> Act -> World -> Prop}
 (h : (execOp a.eval o).run P w = .ok .skip w') (hn : Nx (a.put o.dst undef) w') : o.wp P a w Nx Q := by
 unfold Oper.wp; rw [h]; exact hn
theorem vBits_run {P : Program} {ι : Inj} {op : BinOp} {k : IntKind} {x y : Int} {v : Value} (h : vBits op k x y = some v) (w : World) :
 (Op.intBits op k x y).run P w = .ok v w /\ VR ι v v := by
 unfold vBits at h
 split at h <;> cases h <;> exact ⟨by simp [Op.intBits], .int _ _⟩
theorem vIntOp_run {P : Program} {ι : Inj} {op : BinOp} {k : IntKind} {x y : Int} {v : Value} (h : vIntOp op k x y = some v) (h1 : op ≠ .shl) (h2 : op ≠ .shr) (t : TypeId) (w : World) :
 (binOp op t (.int k x) (.int k y)).run P w = .ok v w /\ VR ι v v := by
 cases op <;> simp only [vIntOp] at h
 case quo => split at h
             ·cases h
             ·cases h; rename_i hb; exact ⟨by simp [binOp, Op.intDiv, hb], .int _ _⟩
 case rem => split at h
             ·cases h
             ·cases h; rename_i hb; exact ⟨by simp [binOp, Op.intDiv, hb], .int _ _⟩
 case shl => exact absurd rfl h1
 case shr => exact absurd rfl h2
 case and => have := vBits_run (P := P) (ι := ι) h w; exact ⟨by simpa [binOp] using this.1, this.2⟩
 case or => have := vBits_run (P := P) (ι := ι) h w; exact ⟨by simpa [binOp] using this.1, this.2⟩
 case xor => have := vBits_run (P := P) (ι := ι) h w; exact ⟨by simpa [binOp] using this.1, this.2⟩
 case andNot => have := vBits_run (P := P) (ι := ι) h w; exact ⟨by simpa [binOp] using this.1, this.2⟩
 all_goals (cases h; first | exact ⟨by simp [binOp, Op.intArith], .int _ _⟩ | exact ⟨by simp [binOp, Op.intCmp], .bool _⟩)
theorem vStrOp_run {P : Program} {ι : Inj} {op : BinOp} {a b : ByteArray} {v : Value} (h : vStrOp op a b = some v) (t : TypeId) (w : World) :
 (binOp op t (.string a) (.string b)).run P w = .ok v w /\ VR ι v v := by
 cases op <;> simp only [vStrOp] at h
 case add =>
  split at h
  ·cases h
   rename_i hs
   have : ¬ ((a.size : Int) + (b.size : Int) > IntKind.i64.max) := by have : IntKind.i64.max = 9223372036854775807 := rfl; omega
   exact ⟨by simp [binOp, Op.stringOp]; omega, .str _⟩
  ·cases h
 all_goals first | (cases h; done) | (cases h; exact ⟨by simp [binOp, Op.stringOp], .bool _⟩)
theorem eqGuard_run {P : Program} {op : BinOp} {t : TypeId} {x y : Operand} {a b : Value} (ha : ∀ cs, a ≠ .agg cs) (hn : a ≠ .nilIface) (w : World) : (eqGuard op t x y a b).run P w = .ok () w := by
 unfold eqGuard
 cases a <;> first
  | exact absurd rfl hn
  | exact absurd rfl (ha _)
  | (cases op <;> simp)
theorem vBin_run {P : Program} {ι : Inj} {d : TypeDesc} {tk : TK} {op : BinOp} {t : TypeId} {x y x' y' v : Value} {ox oy : Operand} (hd : P.underlying t = some d) (hk : TKok P d tk)
 (h : vBin tk op x y = some v) (hx : VR ι x x') (hy : VR ι y y') (w : World) :
 (eqGuard op t ox oy x' y').run P w = .ok () w /\ (binOp op t x' y').run P w = .ok v w /\ VR ι v v := by
 have key : (binOp op t x' y').run P w = .ok v w /\ VR ι v v := by
  unfold vBin at h
  split at h
  ·rename_i k a k' b
   cases hx; cases hy
   split at h
   ·split at h
    ·cases h; rename_i hb
     have hb' : ¬ b < 0 := by omega
     exact ⟨by simp [binOp, Op.shift, hb'], .int _ _⟩
    ·cases h
   ·split at h
    ·cases h; rename_i hb
     have hb' : ¬ b < 0 := by omega
     exact ⟨by simp [binOp, Op.shift, hb'], .int _ _⟩
    ·cases h
   ·rename_i h1 h2
    split at h
    ·rename_i hk'; subst hk'; exact vIntOp_run h h1 h2 t w
    ·cases h
  ·cases hx; cases hy; exact vStrOp_run h t w
  ·rename_i h1 h2
   have hE : ∀ b, vEq tk x y = some b -> (Op.equal t x' y').run P w = .ok b w /\ (∀ (k : IntKind) (n : Int), x' ≠ .int k n) /\ (∀ s, x' ≠ .string s) /\ (∀ a, x' ≠ .pointer a) /\ (∀ a, y' ≠ .pointer a) /\ (∀ (k : FloatKind) (n : Nat), x' ≠ .float k n) /\ (∀ (k : FloatKind) (n m : Nat), x' ≠ .complex k n m) := by
    intro b hb
    unfold vEq at hb
    split at hb
    ·cases hx; cases hy; cases hb
     have hd' : P.underlying t = some .bool := by rw [hd, hk]
     exact ⟨run_equal_bool w t _ _ hd', by simp, by simp, by simp, by simp, by simp, by simp⟩
    ·cases hy
     obtain ⟨rfl, _⟩ := hk
     cases hb
     cases hx <;> exact ⟨run_equal_slice_nil w t _ _ _ _ hd, by simp, by simp, by simp, by simp, by simp, by simp⟩
    ·cases hb
   split at h
   ·cases e : vEq tk x y with
    | none => rw [e] at h; cases h
    | some b =>
      rw [e] at h; cases h
      obtain ⟨hr, n1, n2, n3, n4, n5, n6⟩ := hE b e
      refine ⟨?_, .bool _⟩
      cases x' <;> first | exact absurd rfl (n1 _ _) | exact absurd rfl (n2 _) | exact absurd rfl (n3 _) | exact absurd rfl (n5 _ _) | exact absurd rfl (n6 _ _ _) | (cases y' <;> first | exact absurd rfl (n4 _) | simp [binOp, hr])
   ·cases e : vEq tk x y with
    | none => rw [e] at h; cases h
    | some b =>
      rw [e] at h; cases h
      obtain ⟨hr, n1, n2, n3, n4, n5, n6⟩ := hE b e
      refine ⟨?_, .bool _⟩
      cases x' <;> first | exact absurd rfl (n1 _ _) | exact absurd rfl (n2 _) | exact absurd rfl (n3 _) | exact absurd rfl (n5 _ _) | exact absurd rfl (n6 _ _ _) | (cases y' <;> first | exact absurd rfl (n4 _) | simp [binOp, hr])
   ·cases h
 have hg : (eqGuard op t ox oy x' y').run P w = .ok () w := by
  refine eqGuard_run ?_ ?_ w
  ·rintro cs rfl
   cases hx with | agg =>
   unfold vBin at h
   split at h
   ·exact absurd ‹Value.agg _ = Value.int _ _› (by simp)
   ·exact absurd ‹Value.agg _ = Value.string _› (by simp)
   ·simp only [vEq] at h; split at h <;> simp at h
  ·rintro rfl; cases hx
 exact ⟨hg, key.1, key.2⟩
end Go.AM

/- The operations that do nothing to memory, one by one. -/
namespace Go.AM
set_option linter.unusedSimpArgs false
set_option linter.unusedVariables false
section
variable {P : Program} {X : Ctx} {o : Oper} {st : St}
theorem specV {v : Value} (h : ∀ ι ρ a w, OperR X ι ρ st a o -> Still P o a w (VR ι v)) : OpSpec P X o st (.val v) st.loc st.hp .P :=
 ⟨rfl, rfl, fun k d e => by (cases e), fun ι ρ a w hr => by
  obtain ⟨v', h1, h2⟩ := h ι ρ a w hr
  exact ⟨v', h1, .val h2⟩⟩
theorem spec_move {x : Operand} {e : EV} (ho : o.op = .move x ∨ o.op = .assign x) (hx : Ev X st x e) : OpSpec P X o st e st.loc st.hp .P := by
 have hm : x ∈ o.op.operands := by rcases ho with h | h <;> simp [h, Op.operands]
 refine ⟨rfl, rfl, fun k d h => ?_, fun ι ρ a w hr => ⟨a.eval x, ?_, hx.rel hr hm⟩⟩
 ·subst h; cases hx with | tmp h => exact ⟨_, _, h, hm⟩
 ·rcases ho with h | h <;> simp [execOp, h]
theorem spec_pick {c x y : Operand} {vc v : Value} {ex ey : EV} (ho : o.op = .pick c x y) (hc : Ev X st c (.val vc)) (hx : Ev X st x ex) (hy : Ev X st y ey)
 (h : (vc = .bool true /\ ex = .val v) ∨ (vc = .bool false /\ ey = .val v)) : OpSpec P X o st (.val v) st.loc st.hp .P := by
 refine specV fun ι ρ a w hr => ?_
 have h1 := hc.relv hr (by simp [ho, Op.operands])
 rcases h with ⟨rfl, rfl⟩ | ⟨rfl, rfl⟩
 ·have e : a.eval c = .bool true := by generalize a.eval c = q at *; cases h1; rfl
  exact ⟨_, by simp [execOp, ho, e, asBool], hx.relv hr (by simp [ho, Op.operands])⟩
 ·have e : a.eval c = .bool false := by generalize a.eval c = q at *; cases h1; rfl
  exact ⟨_, by simp [execOp, ho, e, asBool], hy.relv hr (by simp [ho, Op.operands])⟩
theorem spec_binOp {op : BinOp} {t yt : TypeId} {x y : Operand} {ti : TI} {va vb v : Value} (ho : o.op = .binOp op t x y yt) (ht : TIok P t ti) (hx : Ev X st x (.val va)) (hy : Ev X st y (.val vb))
 (h : vBin ti.k op va vb = some v) : OpSpec P X o st (.val v) st.loc st.hp .P := by
 refine specV fun ι ρ a w hr => ?_
 obtain ⟨d, hd, _, hk⟩ := ht.und
 obtain ⟨h0, h1, h2⟩ := vBin_run (P := P) (ox := x) (oy := y) hd hk h (hx.relv hr (by simp [ho, Op.operands])) (hy.relv hr (by simp [ho, Op.operands])) w
 exact ⟨v, by simp [execOp, ho, h0, h1], h2⟩
theorem spec_unOp {op : UnOp} {t : TypeId} {x : Operand} {va v : Value} (ho : o.op = .unOp op t x) (hx : Ev X st x (.val va))
 (h : vUn op va = some v) : OpSpec P X o st (.val v) st.loc st.hp .P := by
 refine specV fun ι ρ a w hr => ?_
 have h1 := hx.relv hr (by simp [ho, Op.operands])
 unfold vUn at h
 split at h
 ·cases h
  generalize hq : a.eval x = q at *
  cases h1
  exact ⟨_, by simp [execOp, ho, hq, Op.unary, Op.intArith], .int _ _⟩
 ·cases h
  generalize hq : a.eval x = q at *
  cases h1
  exact ⟨_, by simp [execOp, ho, hq, Op.unary], .bool _⟩
 ·cases h
theorem spec_convI {src dst : TypeId} {x : Operand} {k k' : IntKind} {va v : Value} (ho : o.op = .convert src dst x) (hs : P.underlying src = some (.int k')) (hd : P.underlying dst = some (.int k)) (hx : Ev X st x (.val va))
 (h : vConvI k va = some v) : OpSpec P X o st (.val v) st.loc st.hp .P := by
 refine specV fun ι ρ a w hr => ?_
 have h1 := hx.relv hr (by simp [ho, Op.operands])
 unfold vConvI at h
 split at h
 ·cases h
  generalize e : a.eval x = q at *
  cases h1
  exact ⟨_, by simp [execOp, ho, e, convert, run_underlying hs, run_underlying hd, Conv.intToInt], .int _ _⟩
 ·cases h
theorem spec_convS {src dst : TypeId} {x : Operand} {va v : Value} (ho : o.op = .convert src dst x) (hs : P.underlying src = some .string) (hd : P.underlying dst = some .string) (hx : Ev X st x (.val va))
 (h : vStr va = some v) : OpSpec P X o st (.val v) st.loc st.hp .P := by
 refine specV fun ι ρ a w hr => ?_
 have h1 := hx.relv hr (by simp [ho, Op.operands])
 unfold vStr at h
 split at h
 ·cases h
  generalize e : a.eval x = q at *
  cases h1
  exact ⟨_, by simp [execOp, ho, e, convert, run_underlying hs, run_underlying hd], .str _⟩
 ·cases h
theorem spec_makeFunc {fn : Fn} {first captured : Array Operand} {vs : List Value} (ho : o.op = .makeFunc fn first captured) (hf : first.size = 0) (hx : Evs X st captured.toList vs) :
 OpSpec P X o st (.val (.func fn #[] vs.toArray)) st.loc st.hp .P := by
 refine specV fun ι ρ a w hr => ?_
 have hm := hx.rel hr (fun x hx => by simp [ho, Op.operands]; exact .inr (by simpa using hx))
 have hf' : first = #[] := Array.eq_empty_of_size_eq_zero hf
 refine ⟨.func fn #[] (captured.map a.eval), by simp [execOp, ho, Instr.makeFunc, hf'], ?_⟩
 refine .fn (by have := hm.length; simpa using this) fun i v v' e e' => ?_
 obtain ⟨u, hu, hv⟩ := hm.get (i := i) (v := v) (by simpa using e)
 have : (captured.map a.eval)[i]? = some u := by rw [<- hu]; simp
 rw [this] at e'; cases e'; exact hv
theorem spec_extract {x : Operand} {i : Nat} {va v : Value} (ho : o.op = .extract x i) (hx : Ev X st x (.val va)) (h : vExt va i = some v) : OpSpec P X o st (.val v) st.loc st.hp .P := by
 refine specV fun ι ρ a w hr => ?_
 have h1 := hx.relv hr (by simp [ho, Op.operands])
 unfold vExt at h
 split at h
 ·rename_i cs
  generalize hq : a.eval x = q at *
  cases h1 with
  | @tuple _ cs' hz hc =>
    have hi : i < cs'.size := by rw [<- hz]; exact (Array.getElem?_eq_some_iff.1 h).1
    exact ⟨cs'[i], by simp [execOp, ho, hq, Instr.extract, Array.getElem?_eq_getElem hi], hc i v _ h (Array.getElem?_eq_getElem hi)⟩
 ·cases h
theorem spec_vOff {t : TypeId} {x : Operand} {f : Nat} {fields : Array Field} {fd : Field} {g : TypeInfo} {va v : Value} (ho : o.op = .fieldAddr t x f) (hd : P.underlying t = some (.struct fields)) (hf : fields[f]? = some fd)
 (hg : P.info? fd.type = some g) (h0 : 0 < g.size) (hx : Ev X st x (.val va)) (h : vOff va fd.offset = some v) : OpSpec P X o st (.val v) st.loc st.hp .P := by
 refine specV fun ι ρ a w hr => ?_
 have h1 := hx.relv hr (by simp [ho, Op.operands])
 have h0' : g.size ≠ 0 := by omega
 unfold vOff at h
 split at h
 ·rename_i b off
  cases h
  generalize hq : a.eval x = q at *
  cases h1 with
  | @ptr _ _ y hy =>
    refine ⟨.pointer (some ⟨y.blk, y.off + (off + fd.offset), none⟩), ?_, .ptr hy⟩
    simp [execOp, ho, hq, Instr.fieldAt, run_underlying hd, hf, Instr.sureAddr, fieldPlace, sizeOf, typeInfo, hg, h0', Addr.add]
    split <;> simp_all [Nat.add_assoc]
 ·cases h
theorem spec_locOff {t : TypeId} {x : Operand} {f : Nat} {fields : Array Field} {fd : Field} {g : TypeInfo} {k d : Nat} (ho : o.op = .fieldAddr t x f) (hd : P.underlying t = some (.struct fields)) (hf : fields[f]? = some fd)
 (hg : P.info? fd.type = some g) (h0 : 0 < g.size) (hx : Ev X st x (.loc k d)) : OpSpec P X o st (.loc k (d + fd.offset)) st.loc st.hp .P := by
 refine ⟨rfl, rfl, fun k' d' e => by cases e; cases hx with | tmp h => exact ⟨_, _, h, by simp [ho, Op.operands]⟩, fun ι ρ a w hr => ?_⟩
 have h1 := hx.rel hr (by simp [ho, Op.operands])
 have h0' : g.size ≠ 0 := by omega
 generalize hq : a.eval x = q at *
 cases h1
 refine ⟨.pointer (some ⟨ρ k, d + fd.offset, none⟩), ?_, .loc _ _⟩
 simp [execOp, ho, hq, Instr.fieldAt, run_underlying hd, hf, Instr.sureAddr, fieldPlace, sizeOf, typeInfo, hg, h0', Addr.add]
theorem spec_nilCheck {x : Operand} {va v : Value} (ho : o.op = .nilCheck x) (hx : Ev X st x (.val va)) (h : vNil va = some v) : OpSpec P X o st (.val v) st.loc st.hp .P := by
 refine specV fun ι ρ a w hr => ?_
 have h1 := hx.relv hr (by simp [ho, Op.operands])
 generalize hq : a.eval x = q at *
 cases h1 with
 | ptr hy => cases h; exact ⟨_, by simp [execOp, ho, hq], .ptr hy⟩
 | @fn f cs cs' hz hc =>
   cases f with
   | func f => cases h; exact ⟨.func (.func f) #[] cs', by simp [execOp, ho, hq], .fn hz hc⟩
   | _ => cases h
 | _ => cases h
theorem spec_nilLoc {x : Operand} {k d : Nat} (ho : o.op = .nilCheck x) (hx : Ev X st x (.loc k d)) : OpSpec P X o st (.loc k d) st.loc st.hp .P := by
 refine ⟨rfl, rfl, fun k' d' e => by cases e; cases hx with | tmp h => exact ⟨_, _, h, by simp [ho, Op.operands]⟩, fun ι ρ a w hr => ?_⟩
 have h1 := hx.rel hr (by simp [ho, Op.operands])
 generalize hq : a.eval x = q at *
 cases h1
 exact ⟨.pointer (some ⟨ρ k, d, none⟩), by simp [execOp, ho, hq], .loc _ _⟩
theorem spec_vIdx {t : TypeId} {x i : Operand} {e : TypeId} {g : TypeInfo} {va vi v : Value} (ho : o.op = .indexAddr t x i) (hd : P.underlying t = some (.slice e)) (hg : P.info? e = some g)
 (hx : Ev X st x (.val va)) (hi : Ev X st i (.val vi)) (h : vIdx g.size va vi = some v) : OpSpec P X o st (.val v) st.loc st.hp .P := by
 refine specV fun ι ρ a w hr => ?_
 have h1 := hx.relv hr (by simp [ho, Op.operands])
 have h2 := hi.relv hr (by simp [ho, Op.operands])
 unfold vIdx at h
 split at h
 ·rename_i b off n c k j
  split at h
  ·rename_i hj
   cases h
   generalize hq : a.eval x = q at *
   generalize hq' : a.eval i = q' at *
   cases h2
   cases h1 with
   | @slc _ _ _ _ _ y hy =>
     refine ⟨.pointer (some ⟨y.blk, y.off + (off + j.toNat * g.size), none⟩), ?_, .ptr hy⟩
     simp [execOp, ho, hq, hq', Instr.indexAt, run_underlying hd, asIntOf, sizeOf, typeInfo, hg, hj, Addr.add]
     split <;> simp_all [Nat.add_assoc]
   | slz => omega
  ·cases h
 ·cases h
theorem spec_vIdxA {t : TypeId} {x i : Operand} {e : TypeId} {n : Nat} {g : TypeInfo} {va vi v : Value} (ho : o.op = .indexAddr t x i) (hd : P.underlying t = some (.array n e)) (hg : P.info? e = some g)
 (hx : Ev X st x (.val va)) (hi : Ev X st i (.val vi)) (h : vIdxA n g.size va vi = some v) : OpSpec P X o st (.val v) st.loc st.hp .P := by
 refine specV fun ι ρ a w hr => ?_
 have h1 := hx.relv hr (by simp [ho, Op.operands])
 have h2 := hi.relv hr (by simp [ho, Op.operands])
 unfold vIdxA at h
 split at h
 ·rename_i b off k j
  split at h
  ·rename_i hj
   cases h
   generalize hq : a.eval x = q at *
   generalize hq' : a.eval i = q' at *
   cases h2
   cases h1 with
   | @ptr _ _ y hy =>
     refine ⟨.pointer (some ⟨y.blk, y.off + (off + j.toNat * g.size), none⟩), ?_, .ptr hy⟩
     simp [execOp, ho, hq, hq', Instr.indexAt, run_underlying hd, asIntOf, sizeOf, typeInfo, hg, hj, Addr.add, Instr.sureAddr]
     split <;> simp_all [Nat.add_assoc]
  ·cases h
 ·cases h
theorem spec_vIndexS {t : TypeId} {x i : Operand} {va vi v : Value} (ho : o.op = .index t x i) (hd : P.underlying t = some .string)
 (hx : Ev X st x (.val va)) (hi : Ev X st i (.val vi)) (h : vIndexS va vi = some v) : OpSpec P X o st (.val v) st.loc st.hp .P := by
 refine specV fun ι ρ a w hr => ?_
 have h1 := hx.relv hr (by simp [ho, Op.operands])
 have h2 := hi.relv hr (by simp [ho, Op.operands])
 unfold vIndexS at h
 split at h
 ·rename_i s k j
  split at h
  ·rename_i hj
   generalize hq : a.eval x = q at *
   generalize hq' : a.eval i = q' at *
   cases h1; cases h2
   cases e : s[j.toNat]? with
   | none => rw [e] at h; cases h
   | some b =>
     rw [e] at h; cases h
     exact ⟨_, by simp [execOp, ho, hq, hq', Instr.index, run_underlying hd, asIntOf, hj, e], .int _ _⟩
  ·cases h
 ·cases h
end
end Go.AM

/- Slices of strings and of slices, structs laid out of their parts. -/
namespace Go.AM
set_option linter.unusedSimpArgs false
set_option linter.unusedVariables false
section
variable {P : Program} {X : Ctx} {o : Oper} {st : St}
theorem bound_run {x : Value} {i : Int} {y : Nat} (c : BoundsCode) (h : ∃ k, x = .int k i) (h0 : 0 <= i) (h1 : i <= y) (w : World) : (Instr.sliceBound x y c).run P w = .ok i.toNat w := by
 obtain ⟨k, rfl⟩ := h
 simp [Instr.sliceBound, asIntOf, h0, h1]
def OptR (ι : Inj) : Option Value -> Option Value -> Prop
 | none, none => True
 | some v, some v' => VR ι v v'
 | _, _ => False
theorem optR_map {ι : Inj} {ρ : Nat -> Nat} {a : Act} {x : Option Operand} {v : Option Value} (hr : OperR X ι ρ st a o) (hm : ∀ y, x = some y -> y ∈ o.op.operands)
 (h : OptEv X st x v) : OptR ι v (x.map a.eval) := by
 cases x <;> cases v <;> first | exact h | exact h.elim | skip
 exact Ev.relv h hr (hm _ rfl)
theorem bnd_opt {ι : Inj} {x x' : Option Value} {d i : Int} (h : bnd x d = some i) (hr : OptR ι x x') : (x' = none /\ x = none /\ i = d) ∨ ∃ k, x' = some (.int k i) /\ x = some (.int k i) := by
 unfold bnd at h
 split at h
 ·cases h; cases x' with
  | none => exact .inl ⟨rfl, rfl, rfl⟩
  | some v => exact hr.elim
 ·cases h; cases x' with
  | none => exact hr.elim
  | some v => cases hr; exact .inr ⟨_, rfl, rfl⟩
 ·cases h
theorem spec_sliceS {t : TypeId} {x : Operand} {lo hi : Option Operand} {va v : Value} {vl vh : Option Value} (ho : o.op = .slice t x lo hi none) (hd : P.underlying t = some .string) (hx : Ev X st x (.val va))
 (hl : OptEv X st lo vl) (hh : OptEv X st hi vh)
 (h : vSliceS va vl vh = some v) : OpSpec P X o st (.val v) st.loc st.hp .P := by
 refine specV fun ι ρ a w hr => ?_
 have h1 := hx.relv hr (by simp [ho, Op.operands])
 have h2 := optR_map hr (by intro y hy; simp [ho, Op.operands, hy]) hl
 have h3 := optR_map hr (by intro y hy; simp [ho, Op.operands, hy]) hh
 unfold vSliceS at h
 split at h
 ·rename_i s
  generalize hq : a.eval x = q at *
  cases h1
  cases e1 : bnd vl 0 with
  | none => rw [e1] at h; cases h
  | some l =>
  cases e2 : bnd vh s.size with
  | none => rw [e1, e2] at h; cases h
  | some k =>
  simp only [e1, e2, Option.bind_some] at h
  split at h
  ·rename_i hb
   cases h
   obtain ⟨hb1, hb2, hb3⟩ := hb
   refine ⟨_, ?_, .str _⟩
   have hk : 0 <= k := by omega
   have hlk : l <= (k.toNat : Int) := by omega
   simp only [execOp, ho, Instr.sliceAt, Instr.slice, Sem.run_bind, run_underlying hd, Result.andThen_ok, hq, Option.map_none]
   rcases bnd_opt e1 h2 with ⟨r1, _, q1⟩ | ⟨k1, r1, _⟩ <;> rcases bnd_opt e2 h3 with ⟨r2, _, q2⟩ | ⟨k2, r2, _⟩ <;> rw [r1, r2] <;>
    simp [Instr.sliceBounds, bound_run (P := P) _ ⟨_, rfl⟩ hk hb3, bound_run (P := P) _ ⟨_, rfl⟩ hb1 hlk, *]
   all_goals (try (rw [bound_run (P := P) _ ⟨_, rfl⟩ (by omega) (by omega)]; simp))
  ·cases h
 ·cases h
theorem szA_ok {ι : Inj} {hp : Heap} {esz n b off : Nat} {x : Img} (h : szA hp esz n (some ⟨b, off, none⟩) = true) (h0 : 0 < n) (hb : ι b = some x) (hs : SzOk ι hp) : x.sz = esz := by
 cases n with
 | zero => omega
 | succ n =>
   simp only [szA] at h
   cases e : hp[b]? with
   | none => rw [e] at h; cases h
   | some k => rw [e] at h; rw [<- hs b x k hb e]; exact Nat.eq_of_beq_eq_true h
theorem sub_VR {ι : Inj} {a q' : Option Addr} {n c c' esz l k m : Nat} {hp : Heap} (full : Prop) [Decidable full] (h : VR ι (.slice a n c) (.slice q' n c')) (hs : SzOk ι hp) (hsz : szA hp esz n a = true)
 (h1 : l <= k) (h2 : k <= n) (h3 : k <= m) (h4 : m <= c') (hf : full -> m = k) (hnil : a = none -> full) : VR ι (.slice (shiftA a (l * esz)) (k - l) (mkCap full (k - l))) (.slice (if m = l then q' else q'.map (·.add (l * esz))) (k - l) (m - l)) := by
 have zero : ∀ (z z' : Addr), k - l = 0 -> VR ι (.slice (some z) (k - l) (mkCap full (k - l))) (.slice (some z') (k - l) (m - l)) := by
  intro z z' hz
  rw [hz]
  refine .slz _ _ _ _ fun hc => ?_
  unfold mkCap at hc
  split at hc
  ·rename_i hh; have := hf hh; omega
  ·omega
 cases h with
 | nils =>
   have e1 : l = 0 := by omega
   have e2 : k = 0 := by omega
   have e3 : m = 0 := by omega
   subst e1 e2 e3
   have hfl := hnil rfl
   simp [mkCap, hfl, shiftA]; exact .nils
 | @slc b off _ _ _ y hy h0 hnc hcf hroom =>
   have hyz : y.sz = esz := szA_ok hsz h0 hy hs
   by_cases hz : k - l = 0
   ·have : ∃ z, (if m = l then some (⟨y.blk, y.off + off, none⟩ : Addr) else (some (⟨y.blk, y.off + off, none⟩ : Addr)).map (·.add (l * esz))) = some z := by split <;> simp
    obtain ⟨z, hz'⟩ := this
    rw [hz']
    exact zero _ _ hz
   ·have hne : m ≠ l := by omega
    rw [if_neg hne]
    have e1 : (some (⟨y.blk, y.off + off, none⟩ : Addr)).map (·.add (l * esz)) = some ⟨y.blk, y.off + (off + l * esz), none⟩ := by
     simp only [Option.map_some, Addr.add]
     split <;> simp_all [Nat.add_assoc]
    rw [e1]
    refine .slc hy (by omega) (by omega) (fun hc => ?_) ?_
    ·unfold mkCap at hc
     split at hc
     ·rename_i hh; rw [hf hh]
     ·omega
    ·subst hyz
     have : l * y.sz + (m - l) * y.sz = m * y.sz := by rw [<- Nat.add_mul]; congr 1; omega
     have : m * y.sz <= c' * y.sz := Nat.mul_le_mul_right _ h4
     have hroom' : off + c' * y.sz <= y.room := hroom
     show off + l * y.sz + (m - l) * y.sz <= y.room
     omega
 | slz a1 a2 _ _ hcc =>
   have hz : k - l = 0 := by omega
   have : ∃ z, (if m = l then some a2 else (some a2).map (·.add (l * esz))) = some z := by split <;> simp
   obtain ⟨z, hz'⟩ := this
   rw [hz']
   exact zero _ _ hz
theorem spec_sliceV {t : TypeId} {x : Operand} {lo hi mx : Option Operand} {e : TypeId} {g : TypeInfo} {va v : Value} {vl vh vm : Option Value} (ho : o.op = .slice t x lo hi mx) (hd : P.underlying t = some (.slice e)) (hg : P.info? e = some g)
 (hx : Ev X st x (.val va)) (hl : OptEv X st lo vl) (hh : OptEv X st hi vh) (hm : OptEv X st mx vm)
 (h : vSliceV st.hp g.size va vl vh vm = some v) : OpSpec P X o st (.val v) st.loc st.hp .P := by
 refine specV fun ι ρ a w hr => ?_
 have h1 := hx.relv hr (by simp [ho, Op.operands])
 have h2 := optR_map hr (by intro y hy; simp [ho, Op.operands, hy]) hl
 have h3 := optR_map hr (by intro y hy; simp [ho, Op.operands, hy]) hh
 have h4 := optR_map hr (by intro y hy; simp [ho, Op.operands, hy]) hm
 unfold vSliceV at h
 split at h
 ·rename_i aa n c
  generalize hq : a.eval x = q at *
  obtain ⟨q', c', rfl, hnc⟩ : ∃ q' c', q = .slice q' n c' /\ n <= c' := by
   cases h1 with
   | nils => exact ⟨_, _, rfl, Nat.le_refl _⟩
   | slc _ _ hnc => exact ⟨_, _, rfl, hnc⟩
   | slz => exact ⟨_, _, rfl, Nat.zero_le _⟩
  cases e1 : bnd vl 0 with
  | none => rw [e1] at h; cases h
  | some l =>
  cases e2 : bnd vh n with
  | none => rw [e1, e2] at h; cases h
  | some k =>
  simp only [e1, e2, Option.bind_some] at h
  cases vm with
  | none =>
    have hmx : mx.map a.eval = none := by cases hmm : mx.map a.eval with | none => rfl | some _ => rw [hmm] at h4; exact h4.elim
    simp only at h
    split at h
    ·rename_i hb
     cases h
     obtain ⟨hb0, hb1, hb2, hb3⟩ := hb
     have hk : 0 <= k := by omega
     have hlk : l <= (k.toNat : Int) := by omega
     have hkc : k <= (c' : Int) := by omega
     refine ⟨.slice (if c' = l.toNat then q' else q'.map (·.add (l.toNat * g.size))) (k.toNat - l.toNat) (c' - l.toNat), ?_, ?_⟩
     ·simp only [execOp, ho, Instr.sliceAt, Instr.slice, Sem.run_bind, run_underlying hd, Result.andThen_ok, hq, hmx]
      rcases bnd_opt e1 h2 with ⟨r1, _, q1⟩ | ⟨k1, r1, _⟩ <;> rcases bnd_opt e2 h3 with ⟨r2, _, q2⟩ | ⟨k2, r2, _⟩ <;> rw [r1, r2] <;>
       simp [Instr.sliceBounds, bound_run (P := P) _ ⟨_, rfl⟩ hk hkc, bound_run (P := P) _ ⟨_, rfl⟩ hb1 hlk, sizeOf, typeInfo, hg, *]
      all_goals (try (rw [bound_run (P := P) _ ⟨_, rfl⟩ (by omega) (by omega)]; simp [sizeOf, typeInfo, hg]))
     ·have hkl : (k - l).toNat = k.toNat - l.toNat := by omega
      rw [hkl]
      by_cases hfl : k = n /\ c = n
      ·have hc' : c' = n := by cases h1 with | nils => rfl | slc _ _ _ hcf => exact hcf hfl.2 | slz _ _ _ _ hcc => exact hcc hfl.2
       exact sub_VR _ h1 hr.2.1 hb0 (by omega) (by omega) (by omega) (Nat.le_refl _) (fun _ => by omega) (fun _ => hfl)
      ·exact sub_VR _ h1 hr.2.1 hb0 (by omega) (by omega) (by omega) (Nat.le_refl _) (fun h => absurd h hfl) (fun hn => by subst hn; cases h1; exact ⟨by omega, rfl⟩)
    ·cases h
  | some vm =>
    obtain ⟨m', hm', hvm⟩ : ∃ m', mx.map a.eval = some m' /\ VR ι vm m' := by cases hmm : mx.map a.eval with | none => rw [hmm] at h4; exact h4.elim | some m' => rw [hmm] at h4; exact ⟨m', rfl, h4⟩
    simp only at h
    cases e3 : bnd (some vm) 0 with
    | none => rw [e3] at h; cases h
    | some m =>
    simp only [e3, Option.bind_some] at h
    split at h
    ·rename_i hb
     cases h
     obtain ⟨hb0, hbs, hb1, hb2, hb3, hb4⟩ := hb
     obtain ⟨k3, rfl⟩ : ∃ k3, vm = .int k3 m := by
      unfold bnd at e3; split at e3
      ·rename_i heq; cases heq
      ·rename_i heq; cases heq; cases e3; exact ⟨_, rfl⟩
      ·cases e3
     cases hvm
     obtain ⟨vh', rfl⟩ := Option.isSome_iff_exists.1 hbs
     obtain ⟨k2, r2⟩ : ∃ k2, hi.map a.eval = some (.int k2 k) := by
      rcases bnd_opt e2 h3 with ⟨_, r, _⟩ | ⟨k2, r2, _⟩
      ·cases r
      ·exact ⟨k2, r2⟩
     have hk : 0 <= k := by omega
     have hlk : l <= (k.toNat : Int) := by omega
     have hm0 : 0 <= m := by omega
     have hmc : m <= (c' : Int) := by omega
     have hkm : k <= (m.toNat : Int) := by omega
     refine ⟨.slice (if m.toNat = l.toNat then q' else q'.map (·.add (l.toNat * g.size))) (k.toNat - l.toNat) (m.toNat - l.toNat), ?_, ?_⟩
     ·simp only [execOp, ho, Instr.sliceAt, Instr.slice, Sem.run_bind, run_underlying hd, Result.andThen_ok, hq, hm', r2]
      rcases bnd_opt e1 h2 with ⟨r1, _, q1⟩ | ⟨k1, r1, _⟩ <;> rw [r1] <;>
       simp [Instr.sliceBounds, bound_run (P := P) _ ⟨_, rfl⟩ hm0 hmc, bound_run (P := P) _ ⟨_, rfl⟩ hk hkm, bound_run (P := P) _ ⟨_, rfl⟩ hb1 hlk, sizeOf, typeInfo, hg, *]
     ·have hkl : (k - l).toNat = k.toNat - l.toNat := by omega
      rw [hkl]
      by_cases hfl : k = m
      ·exact sub_VR _ h1 hr.2.1 hb0 (by omega) (by omega) (by omega) (by omega) (fun _ => by omega) (fun _ => hfl)
      ·exact sub_VR _ h1 hr.2.1 hb0 (by omega) (by omega) (by omega) (by omega) (fun h => absurd h hfl) (fun hn => by subst hn; cases h1; omega)
    ·cases h
 ·cases h
end
end Go.AM

/- Structs and slices laid out of their parts; new blocks. -/
namespace Go.AM
set_option linter.unusedSimpArgs false
set_option linter.unusedVariables false
theorem tabl_len : ∀ (n i : Nat) (cs : List Value), (tabl i n cs).length = n
 | 0, _, _ => rfl
 | n + 1, i, cs => by simp [tabl, tabl_len n]
theorem tabl_get : ∀ (n i : Nat) (cs : List Value) (j : Nat), j < n -> (tabl i n cs)[j]? = some (cs.getD (i + j) undef)
 | 0, _, _, _, h => by omega
 | n + 1, i, cs, 0, _ => by simp [tabl]
 | n + 1, i, cs, j + 1, h => by
   simp only [tabl, List.getElem?_cons_succ]
   rw [tabl_get n (i + 1) cs j (by omega), show i + 1 + j = i + (j + 1) by omega]
theorem tabl_eq (cs : List Value) : tabl 0 cs.length cs = cs := by
 apply List.ext_getElem?
 intro j
 by_cases h : j < cs.length
 ·rw [tabl_get _ _ _ _ h]; simp [h]
 ·rw [List.getElem?_eq_none (by rw [tabl_len]; omega), List.getElem?_eq_none (by omega)]
def CellsOf (agg : Bool) (n : Nat) (v : Value) (cs : List Value) : Prop :=
 (agg = true /\ ∃ a : Array Value, v = .agg a /\ a.size = n /\ cs = a.toList) ∨ (agg = false /\ v.oneCell' = true /\ cs = [v])
theorem cellsK_ev {R : Type} {agg : Bool} {n : Nat} {v : Value} {K : List Value -> Option R} {r : R} (h : cellsK agg n v K = some r) : ∃ cs, CellsOf agg n v cs /\ K cs = some r := by
 cases agg with
 | true =>
   simp only [cellsK, aggN] at h
   split at h
   ·rename_i a
    split at h
    ·rename_i hz
     simp only [Option.bind_some] at h
     have : tabl 0 n a.toList = a.toList := by rw [<- hz, <- Array.length_toList]; exact tabl_eq _
     rw [this] at h
     exact ⟨_, .inl ⟨rfl, a, rfl, hz, rfl⟩, h⟩
    ·cases h
   ·cases h
 | false =>
   simp only [cellsK] at h
   cases e : vOne v with
   | none => rw [e] at h; cases h
   | some u =>
     rw [e] at h
     have hu : u = v /\ v.oneCell' = true := by
      unfold vOne at e
      split at e <;> first | (cases e; done) | skip
      cases e
      rename_i h1 h2
      refine ⟨rfl, ?_⟩
      cases v <;> first | rfl | (exact absurd rfl (h1 _)) | (exact absurd rfl (h2 _))
     obtain ⟨rfl, h1⟩ := hu
     exact ⟨[u], .inr ⟨rfl, h1, rfl⟩, h⟩
theorem CellsOf.len {agg : Bool} {n : Nat} {v : Value} {cs : List Value} (h : CellsOf agg n v cs) (h1 : agg = false -> n = 1) : cs.length = n := by
 rcases h with ⟨_, a, rfl, hz, rfl⟩ | ⟨e, _, rfl⟩
 ·simpa using hz
 ·simp [h1 e]
theorem CellsOf.rel {agg : Bool} {n : Nat} {v v' : Value} {cs : List Value} {ι : Inj} (h : CellsOf agg n v cs) (hr : VR ι v v') : VRs ι cs v'.cells.toList /\ ∀ u ∈ cs, u.oneCell' = true := by
 rcases h with ⟨_, a, rfl, hz, rfl⟩ | ⟨_, h1, rfl⟩
 ·cases hr with
  | @agg _ cs' hz' hc h1 =>
    refine ⟨VRs.of_get (by simpa [Value.cells] using hz') fun i v v' e e' => hc i v v' (by simpa using e) (by simpa [Value.cells] using e'), fun u hu => ?_⟩
    obtain ⟨i, hi⟩ := List.getElem?_of_mem hu
    exact h1 i u (by simpa using hi)
 ·have h1' := hr.one h1
  have hc : v'.cells = #[v'] := by cases v' <;> first | rfl | simp [Value.oneCell'] at h1'
  rw [hc]
  exact ⟨.cons hr .nil, fun u hu => by simp at hu; subst hu; exact h1⟩
inductive Parts (X : Ctx) (st : St) (place : Nat -> Option (Nat × Nat × Bool)) : List (Nat × Operand) -> List Value -> List Value -> Prop
 | nil {cells : List Value} : Parts X st place [] cells cells
 | cons {i : Nat} {x : Operand} {rest : List (Nat × Operand)} {cells cs cells' : List Value} {off n : Nat} {agg : Bool} {v : Value} : place i = some (off, n, agg) -> off + n <= cells.length -> Ev X st x (.val v) →
  CellsOf agg n v cs -> Parts X st place rest (setSeg cells off cs) cells' -> Parts X st place ((i, x) :: rest) cells cells'
theorem partsK_ev {R : Type} {X : Ctx} {st : St} {place : Nat -> Option (Nat × Nat × Bool)} {r : R} : ∀ {ps : List (Nat × Operand)} {cells : List Value} {K : List Value -> Option R}, partsK X st place ps cells K = some r -> ∃ cells', Parts X st place ps cells cells' /\ K cells' = some r
 | [], cells, K, h => ⟨cells, .nil, h⟩
 | (i, x) :: rest, cells, K, h => by
   simp only [partsK] at h
   cases e : place i with
   | none => rw [e] at h; cases h
   | some p =>
     obtain ⟨off, n, agg⟩ := p
     rw [e] at h
     simp only at h
     cases hb : Nat.ble (off + n) cells.length with
     | false => rw [hb] at h; cases h
     | true =>
       rw [hb] at h
       obtain ⟨v, hv, h⟩ := vaK_ev h
       obtain ⟨cs, hcs, h⟩ := cellsK_ev h
       obtain ⟨cells', hp, h⟩ := partsK_ev h
       exact ⟨cells', .cons e (Nat.le_of_ble_eq_true hb) hv hcs hp, h⟩
theorem setSeg_len {l : List Value} {o : Nat} {cs : List Value} (h : o + cs.length <= l.length) : (setSeg l o cs).length = l.length := by
 simp [setSeg]; omega
theorem setSeg_get {l : List Value} {o : Nat} {cs : List Value} (h : o + cs.length <= l.length) (i : Nat) : (setSeg l o cs)[i]? = if o <= i /\ i < o + cs.length then cs[i - o]? else l[i]? := by
 unfold setSeg
 by_cases h1 : i < o
 ·rw [List.append_assoc, List.getElem?_append_left (by simp; omega), List.getElem?_take_of_lt h1, if_neg (by omega)]
 ·by_cases h2 : i < o + cs.length
  ·rw [List.append_assoc, List.getElem?_append_right (by simp; omega), List.getElem?_append_left (by simp; omega), if_pos ⟨by omega, h2⟩]
   congr 1; simp; omega
  ·rw [List.getElem?_append_right (by simp; omega), List.getElem?_drop, if_neg (by omega)]
   congr 1; simp; omega
def seg (cs : Array Value) (off : Nat) (l : List Value) : Array Value := (l.zipIdx).foldl (fun cs (c, j) => cs.setIfInBounds (off + j) c) cs
theorem seg_from (off : Nat) : ∀ (l : List Value) (k : Nat) (cs : Array Value), off + k + l.length <= cs.size →
 ((l.zipIdx k).foldl (fun cs (c, j) => cs.setIfInBounds (off + j) c) cs).size = cs.size ∧
 ∀ i : Nat, ((l.zipIdx k).foldl (fun cs (c, j) => cs.setIfInBounds (off + j) c) cs)[i]? = if off + k <= i /\ i < off + k + l.length then l[i - (off + k)]? else cs[i]?
 | [], k, cs, _ => ⟨rfl, fun i => by simp; omega⟩
 | v :: l, k, cs, h => by
   have ih := seg_from off l (k + 1) (cs.setIfInBounds (off + k) v) (by simp at h ⊢; omega)
   simp only [List.zipIdx_cons, List.foldl_cons]
   refine ⟨by rw [ih.1]; simp, fun i => ?_⟩
   rw [ih.2 i]
   simp only [List.length_cons] at h ⊢
   by_cases h1 : i = off + k
   ·subst h1
    rw [if_neg (by omega), if_pos (by omega)]
    simp [Array.getElem?_setIfInBounds]
    omega
   ·by_cases h2 : off + (k + 1) <= i /\ i < off + (k + 1) + l.length
    ·rw [if_pos h2, if_pos (by omega), show i - (off + k) = (i - (off + (k + 1))) + 1 by omega]
     simp
    ·rw [if_neg h2, if_neg (by omega)]
     simp [Array.getElem?_setIfInBounds]
     intro hh; exact absurd hh.symm h1
theorem fill_run {X : Ctx} {ι : Inj} {ρ : Nat -> Nat} {st : St} {a : Act} {o : Oper} {place : Nat -> Option (Nat × Nat × Bool)} {place' : Nat -> Option (Nat × Nat)} (hr : OperR X ι ρ st a o)
 (hpl : ∀ i off n agg, place i = some (off, n, agg) -> place' i = some (off, n) /\ (agg = false -> n = 1)) {ps : List (Nat × Operand)} {cells cells' : List Value} (h : Parts X st place ps cells cells') :
 (∀ p ∈ ps, p.2 ∈ o.op.operands) -> ∀ cs : Array Value, VRs ι cells cs.toList -> (∀ u ∈ cells, u.oneCell' = true) →
 ∃ cs', Instr.fill place' cs (ps.map fun p => (p.1, a.eval p.2)) = some cs' /\ VRs ι cells' cs'.toList /\ (∀ u ∈ cells', u.oneCell' = true) := by
 induction h with
 | nil => intro _ cs h h1; exact ⟨cs, rfl, h, h1⟩
 | @cons i x rest cells cs cells' off n agg v hp hle hx hc _ ih =>
   intro hm A hA h1
   obtain ⟨hp', hn⟩ := hpl i off n agg hp
   have hxv := hx.relv hr (hm (i, x) (by simp))
   obtain ⟨hcs, hone⟩ := hc.rel hxv
   have hlen := hc.len hn
   have hlen' : (a.eval x).cells.size = n := by have := hcs.length; simp at this; omega
   have hAl : cells.length = A.size := by simpa using hA.length
   have hg := seg_from off (a.eval x).cells.toList 0 A (by simp; omega)
   have hseg : VRs ι (setSeg cells off cs) (seg A off (a.eval x).cells.toList).toList := by
    refine VRs.of_get ?_ fun j u u' e e' => ?_
    ·rw [setSeg_len (by omega)]; simp only [seg, Array.length_toList]; rw [hg.1]; exact hAl
    ·rw [setSeg_get (by omega)] at e
     have e2 : (seg A off (a.eval x).cells.toList)[j]? = some u' := by simpa using e'
     simp only [seg] at e2
     rw [hg.2 j] at e2
     simp only [Nat.add_zero, Array.length_toList] at e2
     by_cases hj : off <= j /\ j < off + cs.length
     ·rw [if_pos hj] at e
      rw [if_pos (by omega)] at e2
      obtain ⟨q, hq, hv⟩ := hcs.get e
      rw [hq] at e2; cases e2; exact hv
     ·rw [if_neg hj] at e
      rw [if_neg (by omega)] at e2
      obtain ⟨q, hq, hv⟩ := hA.get e
      have : A[j]? = some q := by simpa using hq
      rw [this] at e2; cases e2; exact hv
   obtain ⟨cs', hf, hv, h1'⟩ := ih (fun p hp => hm p (by simp [hp])) (seg A off (a.eval x).cells.toList) hseg (fun u hu => by
    obtain ⟨j, hj⟩ := List.getElem?_of_mem hu
    rw [setSeg_get (by omega)] at hj
    split at hj
    ·exact hone u (List.mem_of_getElem? hj)
    ·exact h1 u (List.mem_of_getElem? hj))
   refine ⟨cs', ?_, hv, h1'⟩
   simp only [List.map_cons, Instr.fill, hp']
   rw [if_neg (by simp; omega)]
   rw [<- hf]
   congr 1
   simp only [seg]
   rw [<- Array.foldl_toList]
   simp
theorem VRs_pure {ι : Inj} {z : List Value} (h : ∀ u ∈ z, pureV1 u = true) : VRs ι z z := by
 induction z with
 | nil => exact .nil
 | cons v z ih => exact .cons (pureV1_VR (h v (by simp))) (ih fun u hu => h u (by simp [hu]))
section
variable {P : Program} {X : Ctx} {o : Oper} {st : St}
theorem spec_build {t : TypeId} {parts : Array (Nat × Operand)} {ti : TI} {fs : List (Nat × Nat × Bool)} {cells' : List Value} (ho : o.op = .build t parts) (ht : TIok P t ti) (hk : ti.k = .struct fs)
 (hp : Parts X st (fun i => fs[i]?) parts.toList ti.zero cells') : OpSpec P X o st (.val (.agg cells'.toArray)) st.loc st.hp .P := by
 refine specV fun ι ρ a w hr => ?_
 obtain ⟨i, v, hi, hsz, hz, hzc, hzl, hzp⟩ := ht.info
 obtain ⟨d, hd, hag, hkk⟩ := ht.und
 rw [hk] at hkk
 obtain ⟨fields, rfl, hfn, hf⟩ := hkk
 have hplaces : fields.toList.mapM (fun f => (P.info? f.type).map fun i => (f.offset, i.size)) = some (fs.map fun p => (p.1, p.2.1)) := by
  have : ∀ (l : List Field) (k : Nat), (∀ j, l[j]? = fields[k + j]?) -> l.mapM (fun f => (P.info? f.type).map fun i => (f.offset, i.size)) = some ((fs.drop k).map fun p => (p.1, p.2.1)) := by
   intro l
   induction l with
   | nil =>
     intro k hl
     have : fields[k]? = none := by have := hl 0; simpa using this.symm
     have hk' : fields.size <= k := by simpa using this
     rw [List.drop_eq_nil_of_le (by omega)]; simp
   | cons f l ih =>
     intro k hl
     have h0 : fields[k]? = some f := by have := hl 0; simpa using this.symm
     have hkl : k < fs.length := by have := (Array.getElem?_eq_some_iff.1 h0).1; omega
     obtain ⟨f', g, u, e1, e2, e3, e4, e5, e6, e7⟩ := hf k fs[k].1 fs[k].2.1 fs[k].2.2 (by rw [List.getElem?_eq_getElem hkl])
     rw [h0] at e1; cases e1
     have ih' := ih (k + 1) (fun j => by have h1 := hl (j + 1); rw [List.getElem?_cons_succ] at h1; rw [h1]; congr 1; omega)
     rw [List.mapM_cons, e3, ih', List.drop_eq_getElem_cons hkl, List.map_cons]
     simp only [Option.map_some, Option.bind_eq_bind, Option.bind_some, Option.pure_def, e2, e4]
  simpa using this fields.toList 0 (by simp)
 have hzr : VRs ι ti.zero v.cells.toList := by rw [hzc]; exact VRs_pure hzp
 obtain ⟨cs', hfill, hv, h1⟩ := fill_run hr (place' := fun i => (fs.map fun p => (p.1, p.2.1)).toArray[i]?) (fun j off n agg e => by
  obtain ⟨f', g, u, e1, e2, e3, e4, e5, e6, e7, e8⟩ := hf j off n agg e
  exact ⟨by simp [e], e8⟩) hp (fun p hp => by simp [ho, Op.operands]; exact ⟨p.1, by simpa using hp⟩) v.cells hzr (fun u hu => pureV1_one (hzp u hu))
 have hb : P.built t (parts.map fun (i, x) => (i, a.eval x)).toList = some cs' := by
  simp only [Program.built, hi, hd, hz, hplaces]
  rw [<- hfill]
  congr 1
  simp
 refine ⟨.agg cs', by simp [execOp, ho, run_build w t _ cs' hb], ?_⟩
 refine .agg (by simpa using hv.length) (fun j u u' e e' => ?_) (fun j u e => h1 u (List.mem_of_getElem? (by simpa using e)))
 obtain ⟨q, hq, hr'⟩ := hv.get (i := j) (v := u) (by simpa using e)
 have : cs'[j]? = some q := by simpa using hq
 rw [this] at e'; cases e'; exact hr'
end
end Go.AM

/- Loads, stores, new variables. -/
namespace Go.AM
set_option linter.unusedSimpArgs false
set_option linter.unusedVariables false
section
variable {P : Program} {X : Ctx} {o : Oper} {st : St}
theorem run_isAgg' {t : TypeId} {d : TypeDesc} {agg : Bool} (hd : P.underlying t = some d) (hag : isAggD d = agg) (w : World) : (isAgg t).run P w = .ok agg w := by
 subst hag
 cases d <;> simp [isAgg, run_underlying hd, isAggD]
theorem add_plain (b o j : Nat) : (⟨b, o, none⟩ : Addr).add j = ⟨b, o + j, none⟩ := by unfold Addr.add; split <;> simp_all
def loadP (agg : Bool) (n : Nat) (cells : List Value) (off : Nat) : Option Value :=
 match agg with | true => (cut cells off n).map fun c => Value.agg c.toArray | false => cells[off]?
theorem loadVar_run {ι : Inj} {t : TypeId} {ti : TI} (ht : TIok P t ti) {cells : List Value} {cs : Array Value} {off off' b : Nat} {el : TypeId} {fr : Nat × Nat} {w : World} (hb : w.heap[b]? = some (.cells cs el fr))
 (hc : CellsR ι cells cs off) {v : Value} (h : loadP ti.agg ti.size cells off' = some v) :
 ∃ v', (loadVar t ⟨b, off + off', none⟩).run P w = .ok v' w /\ VR ι v v' := by
 obtain ⟨i, z, hi, hsz, _⟩ := ht.info
 obtain ⟨d, hd, hag, _⟩ := ht.und
 have hia := run_isAgg' hd hag w
 have cell : ∀ j, w.cell? ((⟨b, off + off', none⟩ : Addr).add j) = cs[off + off' + j]? := by
  intro j
  rw [add_plain]
  simp [World.cell?, hb]
 cases hg : ti.agg with
 | false =>
   rw [hg] at h hia
   simp only [loadP] at h
   obtain ⟨_, v', e, hv⟩ := hc _ _ h
   have := cell 0
   rw [add_plain, Nat.add_zero] at this
   refine ⟨v', ?_, hv⟩
   simp only [loadVar, Sem.run_bind, hia, Result.andThen_ok]
   simp [this, e]
 | true =>
   rw [hg] at h hia
   simp only [loadP] at h
   cases hcut : cut cells off' ti.size with
   | none => rw [hcut] at h; cases h
   | some c =>
     rw [hcut] at h; cases h
     unfold cut at hcut
     split at hcut
     ·rename_i hle
      cases hcut
      have hcl : ((cells.drop off').take ti.size).length = ti.size := by simp; omega
      have hget : ∀ j v, ((cells.drop off').take ti.size)[j]? = some v -> v.oneCell' = true /\ ∃ v', cs[off + off' + j]? = some v' /\ VR ι v v' := by
       intro j v e
       have hj : j < ti.size := by rw [<- hcl]; exact (List.getElem?_eq_some_iff.1 e).1
       rw [List.getElem?_take_of_lt hj, List.getElem?_drop] at e
       obtain ⟨h1, v', e', hv⟩ := hc _ _ e
       exact ⟨h1, v', by rw [<- e']; congr 1; omega, hv⟩
      have hrun : (loadCells ⟨b, off + off', none⟩ ti.size).run P w = .ok ((List.range ti.size).map fun j => cs.getD (off + off' + j) undef).toArray w := by
       refine run_loadCells w _ _ _ fun j hj => ?_
       rw [cell j]
       obtain ⟨_, v', e', _⟩ := hget j _ (List.getElem?_eq_getElem (by omega))
       simp [e']
      refine ⟨.agg ((List.range ti.size).map fun j => cs.getD (off + off' + j) undef).toArray, ?_, ?_⟩
      ·simp [loadVar, hia, sizeOf, typeInfo, hi, hsz, hrun]
      ·refine .agg (by simp; omega) (fun j v v' e e' => ?_) (fun j v e => (hget j v (by simpa using e)).1)
       obtain ⟨_, q, e2, hv⟩ := hget j v (by simpa using e)
       have hj : j < ti.size := by have := (Array.getElem?_eq_some_iff.1 e).1; simp at this; omega
       simp [hj] at e'
       rw [<- e']
       simpa [e2] using hv
     ·cases hcut
theorem storeVar_run {t : TypeId} {ti : TI} (ht : TIok P t ti) {v : Value} {b off : Nat} {w : World} {cs : Array Value} {el : TypeId} {fr : Nat × Nat} {pl : Bool} (hb : w.heap[b]? = some (.cells cs el fr)) (hn : NoFr pl cs.size fr)
 (hz : v.cells.size = ti.size) (hle : off + v.cells.size <= cs.size) (h1 : ∀ u ∈ v.cells.toList, u.oneCell' = true) :
 (storeVar t ⟨b, off, none⟩ v).run P w = .ok () (w.setCells b off v.cells.toList) := by
 obtain ⟨i, z, hi, hsz, _⟩ := ht.info
 have := run_storeCells_cells (P := P) b off v.cells.toList 0 w (fun j hj => by
  simp only [World.cell?, hb]
  simp at hj
  simp; omega) (fun j hj => by
  simp only [World.frozen?, hb]
  obtain ⟨lo, hi'⟩ := fr
  simp at hj ⊢
  rcases hn with h | h <;> simp at h <;> omega) h1
 simp only [Nat.add_zero] at this
 simp [storeVar, sizeOf, typeInfo, hi, hsz, hz, this]
theorem setCells_block : ∀ (l : List Value) (o : Nat) (w : World) (b : Nat) (cs : Array Value) (el : TypeId) (fr : Nat × Nat), w.heap[b]? = some (.cells cs el fr) -> o + l.length <= cs.size →
 ∃ cs', (w.setCells b o l).heap[b]? = some (.cells cs' el fr) /\ cs'.size = cs.size /\ (∀ i, cs'[i]? = if o <= i /\ i < o + l.length then l[i - o]? else cs[i]?) ∧
   (∀ j, j ≠ b -> (w.setCells b o l).heap[j]? = w.heap[j]?) /\ (w.setCells b o l).heap.size = w.heap.size /\ (w.setCells b o l).os = w.os /\ (w.setCells b o l).tape = w.tape /\ (w.setCells b o l).output = w.output
 | [], o, w, b, cs, el, fr, hb, _ => ⟨cs, hb, rfl, fun i => by simp; omega, fun _ _ => rfl, rfl, rfl, rfl, rfl⟩
 | v :: l, o, w, b, cs, el, fr, hb, hle => by
   have hlt : b < w.heap.size := (Array.getElem?_eq_some_iff.1 hb).1
   have hb' : (w.setCell ⟨b, o, none⟩ v).heap[b]? = some (.cells (cs.setIfInBounds o v) el fr) := by
    simp [World.setCell, Array.getElem?_modify, hb]
   obtain ⟨cs', h1, h2, h3, h4, h5, h6, h7, h8⟩ := setCells_block l (o + 1) (w.setCell ⟨b, o, none⟩ v) b (cs.setIfInBounds o v) el fr hb' (by simp at hle ⊢; omega)
   refine ⟨cs', h1, by simpa using h2, fun i => ?_, fun j hj => ?_, ?_, h6, h7, h8⟩
   ·rw [h3 i]
    simp only [List.length_cons] at hle ⊢
    by_cases e : i = o
    ·subst e
     rw [if_neg (by omega), if_pos (by omega)]
     simp [Array.getElem?_setIfInBounds]; omega
    ·by_cases e2 : o + 1 <= i /\ i < o + 1 + l.length
     ·rw [if_pos e2, if_pos (by omega), show i - o = (i - (o + 1)) + 1 by omega]; simp
     ·rw [if_neg e2, if_neg (by omega), Array.getElem?_setIfInBounds, if_neg (fun h => e h.symm)]
   ·rw [World.setCells, h4 j hj]
    simp only [World.setCell, Array.getElem?_modify]
    rw [if_neg (fun h => hj h.symm)]
   ·rw [World.setCells, h5]; simp [World.setCell]
theorem cellsR_set {ι : Inj} {cells new : List Value} {cs cs' : Array Value} {base off : Nat} {l : List Value} (h : CellsR ι cells cs base) (hle : off + new.length <= cells.length) (hn : VRs ι new l) (h1 : ∀ u ∈ new, u.oneCell' = true)
 (hc : ∀ i, cs'[i]? = if base + off <= i /\ i < base + off + l.length then l[i - (base + off)]? else cs[i]?) : CellsR ι (setSeg cells off new) cs' base := by
 intro i v e
 rw [setSeg_get hle] at e
 have hl := hn.length
 rw [hc]
 by_cases hi : off <= i /\ i < off + new.length
 ·rw [if_pos hi] at e
  obtain ⟨q, hq, hv⟩ := hn.get e
  exact ⟨h1 v (List.mem_of_getElem? e), q, by rw [if_pos (by omega), <- hq]; congr 1; omega, hv⟩
 ·rw [if_neg hi] at e
  obtain ⟨a, q, hq, hv⟩ := h i v e
  exact ⟨a, q, by rw [if_neg (by omega)]; exact hq, hv⟩
theorem spec_loadL {t : TypeId} {x : Operand} {ti : TI} {k off : Nat} {cells : List Value} {v : Value} (ho : o.op = .load t x) (ht : TIok P t ti) (hx : Ev X st x (.loc k off)) (hk : look st.loc k = some cells)
 (h : loadP ti.agg ti.size cells off = some v) : OpSpec P X o st (.val v) st.loc st.hp (.L k) := by
 refine ⟨rfl, rfl, v, cells, rfl, hk, fun ι ρ a w hr hl => ?_⟩
 have h1 := hx.rel hr (by simp [ho, Op.operands])
 obtain ⟨cs, el, fr, hb, hz, hn, hc⟩ := hl
 obtain ⟨v', hv', hr'⟩ := loadVar_run ht (off := 0) hb hc h
 generalize hq : a.eval x = q at *
 cases h1
 rw [Nat.zero_add] at hv'
 exact ⟨v', by simp [execOp, ho, Instr.loadAt, Instr.sureAddr, hq, hv'], hr'⟩
theorem spec_loadH {t : TypeId} {x : Operand} {ti : TI} {p v : Value} (ho : o.op = .load t x) (ht : TIok P t ti) (hx : Ev X st x (.val p)) (h : hLoad st.hp ti.agg ti.size p = some v) :
 OpSpec P X o st (.val v) st.loc st.hp .H := by
 refine ⟨rfl, rfl, v, rfl, fun ι ρ a w B Nx Q hr hR hN => ?_⟩
 have h1 := hx.relv hr (by simp [ho, Op.operands])
 unfold hLoad at h
 split at h
 ·rename_i b off
  cases e : blkAt st.hp b with
  | none => rw [e] at h; cases h
  | some k =>
    rw [e] at h
    simp only [Option.bind_some] at h
    generalize hq : a.eval x = q at *
    cases h1 with
    | @ptr _ _ y hy =>
      obtain ⟨cs, el, fr, hb, hz, hlen, hc, _⟩ := hR.ok _ _ _ hy e
      obtain ⟨v', hv', hr'⟩ := loadVar_run ht (off := y.off) (off' := off) (v := v) hb hc (by rw [<- h]; unfold loadP; cases ti.agg <;> rfl)
      exact wp_of_run (by simp [execOp, ho, Instr.loadAt, Instr.sureAddr, hq, hv']) (hN v' w hR ⟨rfl, rfl, rfl, Nat.le_refl _, fun _ _ _ => rfl⟩ hr')
 ·cases h
theorem spec_storeL {t : TypeId} {x y : Operand} {ti : TI} {k off : Nat} {old cs : List Value} {v : Value} (ho : o.op = .store t x y) (ht : TIok P t ti) (hx : Ev X st x (.loc k off)) (hy : Ev X st y (.val v)) (hk : look st.loc k = some old)
 (hc : CellsOf ti.agg ti.size v cs) (hle : off + cs.length <= old.length) : OpSpec P X o st .skp (setL st.loc k (setSeg old off cs)) st.hp (.S k) := by
 refine ⟨rfl, rfl, old, setSeg old off cs, hk, rfl, setSeg_len hle, fun ι ρ a w hr hl => ?_⟩
 have h1 := hx.rel hr (by simp [ho, Op.operands])
 have h2 := hy.relv hr (by simp [ho, Op.operands])
 obtain ⟨hvs, hone⟩ := hc.rel h2
 have hlen := hc.len ht.sz
 have hsz : (a.eval y).cells.size = ti.size := by have := hvs.length; simp at this; omega
 obtain ⟨A, el, fr, hb, hz, hn, hcr⟩ := hl
 have hone' : ∀ u ∈ (a.eval y).cells.toList, u.oneCell' = true := by
  intro u hu
  obtain ⟨i, hi⟩ := List.getElem?_of_mem hu
  have hi2 : i < cs.length := by rw [hvs.length]; exact (List.getElem?_eq_some_iff.1 hi).1
  obtain ⟨q, hq, hv⟩ := hvs.get (List.getElem?_eq_getElem hi2)
  rw [hi] at hq; cases hq
  exact hv.one (hone _ (List.getElem_mem hi2))
 have hrun := storeVar_run (off := off) ht hb hn hsz (by omega) hone'
 obtain ⟨A', e1, e2, e3, e4, e5, e6, e7, e8⟩ := setCells_block (a.eval y).cells.toList off w (ρ k) A el fr hb (by simp; omega)
 generalize hq : a.eval x = q at *
 cases h1
 refine ⟨w.setCells (ρ k) off (a.eval y).cells.toList, by simp [execOp, ho, Instr.storeAt, Instr.sureAddr, hq, hrun], ⟨A', el, fr, e1, by rw [e2, hz, setSeg_len hle], by rw [e2]; exact hn, ?_⟩, e6, e7, e8, e5, e4⟩
 exact cellsR_set hcr hle hvs hone (fun i => by simpa using e3 i)
theorem hcells {agg : Bool} {n : Nat} {v : Value} {cs : List Value} (h : CellsOf agg n v cs) : v.cells.toList = cs := by
 rcases h with ⟨_, a, rfl, _, rfl⟩ | ⟨_, h1, rfl⟩
 ·rfl
 ·cases v <;> first | rfl | simp [Value.oneCell'] at h1
theorem locR_new {ι : Inj} {cells : List Value} {cs : Array Value} {el : TypeId} {w : World} (h : VRs ι cells cs.toList) (h1 : ∀ u ∈ cells, u.oneCell' = true) : LocR ι cells (w.alloc (.cells cs el)) w.heap.size := by
 refine ⟨cs, el, (0, 0), by show (w.heap.push _)[w.heap.size]? = _; simp, by have := h.length; simp at this; omega, .inl (Nat.le_refl _), fun i v e => ?_⟩
 obtain ⟨q, hq, hv⟩ := h.get e
 exact ⟨h1 v (List.mem_of_getElem? e), q, by simpa using hq, hv⟩
theorem spec_allocL {t : TypeId} {ti : TI} {d : Nat} (ho : o.op = .alloc t) (hdst : o.dst = some d) (ht : TIok P t ti) (hk : look st.loc d = none) : OpSpec P X o st (.loc d 0) ((d, ti.zero) :: st.loc) st.hp (.N d) := by
 refine ⟨rfl, hdst, rfl, hk, ti.zero, rfl, fun ι ρ a w hr => ?_⟩
 obtain ⟨i, z, hi, hsz, hz, hzc, hzl, hzp⟩ := ht.info
 refine ⟨.cells z.cells t, by simp [execOp, ho, Instr.alloc, zeroValue, typeInfo, hi, hz, newVar, newRow], locR_new (by rw [hzc]; exact VRs_pure hzp) fun u hu => pureV1_one (hzp u hu)⟩
theorem spec_boxL {t : TypeId} {x : Operand} {ti : TI} {d : Nat} {v : Value} {cs : List Value} (ho : o.op = .box t x) (hdst : o.dst = some d) (hx : Ev X st x (.val v)) (hc : CellsOf ti.agg ti.size v cs) (hk : look st.loc d = none) :
 OpSpec P X o st (.loc d 0) ((d, cs) :: st.loc) st.hp (.N d) := by
 refine ⟨rfl, hdst, rfl, hk, cs, rfl, fun ι ρ a w hr => ?_⟩
 have h2 := hx.relv hr (by simp [ho, Op.operands])
 obtain ⟨hvs, hone⟩ := hc.rel h2
 exact ⟨.cells (a.eval x).cells t, by simp [execOp, ho, Instr.box, newVar, newRow], locR_new hvs hone⟩
theorem rel_push {ng : Nat} {ι : Inj} {hp : Heap} {w w' : World} {B : Nat} (hR : Rel ng ι hp w B) (k : Blk) (cs : Array Value) (el : TypeId) (fr : Nat × Nat) (hfr : NoFr k.pl cs.size fr) (hw : w'.heap = w.heap.push (.cells cs el fr)) (ho : w'.os = w.os) (ht : w'.tape = w.tape) (hu : w'.output = w.output)
 (hlen : k.cells.length <= cs.size) (hc : CellsR ι k.cells cs 0) : ∃ ι', ι' = (fun b => if b = hp.length then some ⟨w.heap.size, 0, cs.size, k.sz⟩ else ι b) /\ ExtN hp.length ι ι' /\ (∀ b x, hp.length <= b -> ι' b = some x -> w.heap.size <= x.blk) ∧
  Rel ng ι' (hp ++ [k]) w' B /\ Fr ι hp w w' := by
 refine ⟨_, rfl, fun b hb => by simp; omega, fun b x hb hx => ?_, ?_, ?_⟩
 ·split at hx
  ·cases hx; exact Nat.le_refl _
  ·exact absurd (hR.dom _ _ hx) (by omega)
 ·have hsub : Sub ι (fun b => if b = hp.length then some ⟨w.heap.size, 0, cs.size, k.sz⟩ else ι b) := fun b x hb => by
   simp only
   rw [if_neg (by have := hR.dom _ _ hb; omega)]; exact hb
  have hold : ∀ j, j < w.heap.size -> w'.heap[j]? = w.heap[j]? := fun j hj => by rw [hw, Array.getElem?_push, if_neg (by omega)]
  have hblk : ∀ b x q, ι b = some x -> blkAt hp b = some q -> x.blk < w.heap.size := fun b x q hb hq => by
   obtain ⟨_, _, _, e, _⟩ := hR.ok b x q hb hq
   exact (Array.getElem?_eq_some_iff.1 e).1
  refine ⟨fun g hg => ?_, fun b x q hb hq => ?_, fun b x hb => ?_, by rw [hw]; simp; have := hR.base; omega, fun b x q hb hq => ?_, fun b x q b' x' q' hb hq hm hb' hq' he => ?_⟩
  ·obtain ⟨x, h1, h2⟩ := hR.glob g hg
   exact ⟨x, hsub _ _ h1, h2⟩
  ·split at hb
   ·rename_i e; cases hb; subst e; simp at hq; cases hq; rfl
   ·have := hR.dom _ _ hb
    rw [List.getElem?_append_left this] at hq
    exact hR.szs _ _ _ hb hq
  ·split at hb
   ·rename_i e; simp [e]
   ·have := hR.dom _ _ hb; simp; omega
  ·split at hb
   ·rename_i e
    cases hb
    have hq' : q = k := by have := (blkAt_some hq).1; rw [e] at this; simpa using this.symm
    subst hq'
    refine ⟨cs, el, fr, by rw [hw]; simp, by simp, hlen, hc.mono hsub, fun _ => ⟨hfr, hR.base⟩⟩
   ·have hd := hR.dom _ _ hb
    rw [blkAt_append _ hd] at hq
    obtain ⟨cs', el', fr', e, h1, h2, h3, h4⟩ := hR.ok b x q hb hq
    exact ⟨cs', el', fr', by rw [hold _ (hblk _ _ _ hb hq)]; exact e, h1, h2, h3.mono hsub, h4⟩
  ·split at hb <;> split at hb'
   ·exact .inl (by omega)
   ·cases hb
    have hd' := hR.dom _ _ hb'
    rw [blkAt_append _ hd'] at hq'
    have := hblk _ _ _ hb' hq'
    exact absurd he (by simp; omega)
   ·cases hb'
    have hd := hR.dom _ _ hb
    rw [blkAt_append _ hd] at hq
    have := hblk _ _ _ hb hq
    exact absurd he (by simp; omega)
   ·rw [blkAt_append _ (hR.dom _ _ hb)] at hq
    rw [blkAt_append _ (hR.dom _ _ hb')] at hq'
    exact hR.sep _ _ _ _ _ _ hb hq hm hb' hq' he
 ·exact ⟨ho, ht, hu, by rw [hw]; simp, fun j hj _ => by rw [hw, Array.getElem?_push, if_neg (by omega)]⟩
end
end Go.AM

/- Operations that lay new blocks, and those that write the heap. -/
namespace Go.AM
set_option linter.unusedSimpArgs false
set_option linter.unusedVariables false
section
variable {P : Program} {X : Ctx} {o : Oper} {st : St}
theorem specA_push {k : Blk} {v : Value} (h : ∀ ι ρ a w B, OperR X ι ρ st a o -> Rel X.ng ι st.hp w B -> ∃ v' w' cs el fr, (execOp a.eval o).run P w = .ok (.value v') w' /\ w'.heap = w.heap.push (.cells cs el fr) ∧
 NoFr k.pl cs.size fr /\ w'.os = w.os /\ w'.tape = w.tape /\ w'.output = w.output /\ k.cells.length <= cs.size /\ CellsR ι k.cells cs 0 /\ (∀ ι' : Inj, ι' st.hp.length = some ⟨w.heap.size, 0, cs.size, k.sz⟩ -> VR ι' v v')) :
 OpSpec P X o st (.val v) st.loc (st.hp ++ [k]) .A := by
 refine ⟨rfl, ⟨[k], rfl⟩, v, rfl, fun ι ρ a w B Nx Q hr hR hN => ?_⟩
 obtain ⟨v', w', cs, el, fr, hrun, hw, hfr, h1, h2, h3, hlen, hc, hv⟩ := h ι ρ a w B hr hR
 obtain ⟨ι', hι, e1, e2, e3, e4⟩ := rel_push hR k cs el fr hfr hw h1 h2 h3 hlen hc
 exact wp_of_run hrun (hN ι' v' w' e1 (fun b x _ h1 h2 _ => e2 b x h1 h2) e3 e4 (hv ι' (by rw [hι]; simp)))
theorem cellsR_of {ι : Inj} {cells : List Value} {cs : Array Value} (h : ∀ (i : Nat) (v : Value), cells[i]? = some v -> ∃ v', cs[i]? = some v' /\ VR ι v v') (h1 : ∀ u ∈ cells, u.oneCell' = true) : CellsR ι cells cs 0 :=
 fun i v e => ⟨h1 v (List.mem_of_getElem? e), by obtain ⟨v', a, b⟩ := h i v e; exact ⟨v', by simpa using a, b⟩⟩
theorem cellsR_vrs {ι : Inj} {cells : List Value} {cs : Array Value} (h : VRs ι cells cs.toList) (h1 : ∀ u ∈ cells, u.oneCell' = true) : CellsR ι cells cs 0 :=
 cellsR_of (fun i v e => by obtain ⟨q, hq, hv⟩ := h.get e; exact ⟨q, by simpa using hq, hv⟩) h1
theorem spec_allocA {t : TypeId} {ti : TI} (ho : o.op = .alloc t) (ht : TIok P t ti) : OpSpec P X o st (.val (.pointer (some ⟨st.hp.length, 0, none⟩))) st.loc (st.hp ++ [⟨ti.zero, ti.size, .rw, st.hp.length, true⟩]) .A := by
 obtain ⟨i, z, hi, hsz, hz, hzc, hzl, hzp⟩ := ht.info
 refine specA_push fun ι ρ a w B hr hR => ⟨.pointer (some ⟨w.heap.size, 0, none⟩), w.alloc (.cells z.cells t), z.cells, t, (0, 0), by simp [execOp, ho, Instr.alloc, zeroValue, typeInfo, hi, hz, newVar, newRow], rfl, .inl (Nat.le_refl _), rfl, rfl, rfl, ?_, ?_, ?_⟩
 ·show ti.zero.length <= _; rw [<- hzc]; simp
 ·exact cellsR_vrs (by rw [hzc]; exact VRs_pure hzp) fun u hu => pureV1_one (hzp u hu)
 ·intro ι' e; exact .ptr (x := ⟨w.heap.size, 0, z.cells.size, ti.size⟩) e
theorem spec_boxA {t : TypeId} {x : Operand} {ti : TI} {v : Value} {cs : List Value} (ho : o.op = .box t x) (hx : Ev X st x (.val v)) (hc : CellsOf ti.agg ti.size v cs) :
 OpSpec P X o st (.val (.pointer (some ⟨st.hp.length, 0, none⟩))) st.loc (st.hp ++ [⟨cs, ti.size, .rw, st.hp.length, true⟩]) .A := by
 refine specA_push fun ι ρ a w B hr hR => ?_
 obtain ⟨hvs, hone⟩ := hc.rel (hx.relv hr (by simp [ho, Op.operands]))
 refine ⟨.pointer (some ⟨w.heap.size, 0, none⟩), w.alloc (.cells (a.eval x).cells t), (a.eval x).cells, t, (0, 0), by simp [execOp, ho, Instr.box, newVar, newRow], rfl, .inl (Nat.le_refl _), rfl, rfl, rfl, ?_, cellsR_vrs hvs hone, ?_⟩
 ·have := hvs.length; simp at this; simp; omega
 ·intro ι' e; exact .ptr (x := ⟨w.heap.size, 0, (a.eval x).cells.size, ti.size⟩) e
theorem newSl_VR {ι' : Inj} {hp : Heap} {w : World} {n c c' room sz : Nat} (e : ι' hp.length = some ⟨w.heap.size, 0, room, sz⟩) (h1 : n <= c') (h2 : c = n -> c' = n) (h3 : c' * sz <= room) :
 VR ι' (newSl hp n c) (.slice (some ⟨w.heap.size, 0, none⟩) n c') := by
 unfold newSl
 by_cases h0 : n = 0
 ·subst h0; exact .slz _ _ _ _ h2
 ·exact .slc (x := ⟨w.heap.size, 0, room, sz⟩) e (by omega) h1 h2 (by simpa using h3)
theorem rep_len (z : List Value) : ∀ n, (rep n z).length = n * z.length
 | 0 => by simp [rep]
 | n + 1 => by simp [rep, rep_len z n, Nat.add_mul]; omega
theorem rep_get (z : List Value) : ∀ n i, i < n * z.length -> (rep n z)[i]? = z[i % z.length]?
 | 0, i, h => by simp at h
 | n + 1, i, h => by
   simp only [rep]
   by_cases hi : i < z.length
   ·rw [List.getElem?_append_left hi, Nat.mod_eq_of_lt hi]
   ·rw [List.getElem?_append_right (by omega), rep_get z n (i - z.length) (by rw [Nat.succ_mul] at h; omega)]
    congr 1
    exact (Nat.mod_eq_sub_mod (a := i) (b := z.length) (by omega)).symm
theorem rep_mem {z : List Value} {u : Value} : ∀ {n}, u ∈ rep n z -> u ∈ z
 | 0, h => by simp [rep] at h
 | n + 1, h => by simp only [rep, List.mem_append] at h; exact h.elim id rep_mem
theorem zeros_get {z : Array Value} {n i : Nat} (h : i < n * z.size) : ((Array.range (n * z.size)).map (z[· % z.size]!))[i]? = z[i % z.size]? := by
 have hz : 0 < z.size := by rcases Nat.eq_zero_or_pos z.size with h0 | h0; · rw [h0] at h; omega
                            ·exact h0
 have : i % z.size < z.size := Nat.mod_lt _ hz
 simp [h, this]
theorem zeros_VRs {ι : Inj} {z : Array Value} {zl : List Value} (hz : z.toList = zl) (hp : ∀ u ∈ zl, pureV1 u = true) (n : Nat) : VRs ι (rep n zl) ((Array.range (n * z.size)).map (z[· % z.size]!)).toList := by
 have hzl : zl.length = z.size := by rw [<- hz]; simp
 refine VRs.of_get (by rw [rep_len, hzl]; simp) fun i v v' e e' => ?_
 have hi : i < n * z.size := by rw [<- hzl, <- rep_len zl n]; exact (List.getElem?_eq_some_iff.1 e).1
 rw [rep_get zl n i (by rw [hzl]; exact hi), hzl] at e
 have e2 : ((Array.range (n * z.size)).map (z[· % z.size]!))[i]? = some v' := by rw [<- e', Array.getElem?_toList]
 rw [zeros_get hi] at e2
 have : z[i % z.size]? = zl[i % z.size]? := by rw [<- hz]; simp
 rw [this, e] at e2
 cases e2
 exact pureV1_VR (hp v (List.mem_of_getElem? e))
theorem spec_buildSlice {t e : TypeId} {len esz eb : Nat} {z cells' : List Value} {parts : Array (Nat × Operand)} {ti te : TI} (ho : o.op = .buildSlice t len parts) (ht : TIok P t ti) (hk : ti.k = .slice e esz eb z) (hte : TIok P e te)
 (hb : len * esz <= 16777216) (hp : Parts X st (fun i => some (i * esz, esz, te.agg)) parts.toList (rep len z) cells') :
 OpSpec P X o st (.val (newSl st.hp len len)) st.loc (st.hp ++ [⟨cells', esz, .rw, st.hp.length, true⟩]) .A := by
 obtain ⟨d, hd, _, hkk⟩ := ht.und
 rw [hk] at hkk
 obtain ⟨rfl, i, v, hi, hsz, hby, hz, hzc, hzl, h0, hb0, hzp⟩ := hkk
 refine specA_push fun ι ρ a w B hr hR => ?_
 have hvs : v.cells.size = esz := by rw [<- hzl, <- hzc]; simp
 have h1 : ∀ u ∈ rep len z, u.oneCell' = true := fun u hu => pureV1_one (hzp u (rep_mem hu))
 have hagg : te.agg = false -> esz = 1 := fun h => by
  obtain ⟨i', _, hi', hs', _⟩ := hte.info
  rw [hi] at hi'; cases hi'
  rw [<- hsz, hs', hte.sz h]
 obtain ⟨cs', hfill, hv, h1'⟩ := fill_run hr (place' := fun i => some (i * esz, esz)) (fun j off n agg e => by simp at e; obtain ⟨rfl, rfl, rfl⟩ := e; exact ⟨rfl, hagg⟩) hp
  (fun p hp => by simp [ho, Op.operands]; exact ⟨p.1, by simpa using hp⟩) ((Array.range (len * v.cells.size)).map (v.cells[· % v.cells.size]!)) (zeros_VRs hzc hzp len) h1
 rw [hvs] at hfill
 have hcl : cells'.length = cs'.size := by simpa using hv.length
 have hcl' : cells'.length = len * esz := by
  have : ∀ {ps : List (Nat × Operand)} {c c' : List Value}, Parts X st (fun i => some (i * esz, esz, te.agg)) ps c c' -> c'.length = c.length := by
   intro ps c c' h
   induction h with
   | nil => rfl
   | @cons i x rest cells cs cells' off n agg v hp hle hx hc _ ih =>
     simp at hp; obtain ⟨rfl, rfl, rfl⟩ := hp
     have := hc.len hagg
     rw [ih, setSeg_len (by omega)]
  rw [this hp, rep_len, hzl]
 refine ⟨.slice (some ⟨w.heap.size, 0, none⟩) len len, w.alloc (.cells cs' e), cs', e, (0, 0), ?_, rfl, .inl (Nat.le_refl _), rfl, rfl, rfl, by simp; omega, cellsR_vrs hv h1', fun ι' e => newSl_VR e (Nat.le_refl _) (fun h => h.symm ▸ rfl) (by show len * esz <= cs'.size; omega)⟩
 have hps : (parts.map fun (i, x) => (i, a.eval x)).toList = parts.toList.map fun p => (p.1, a.eval p.2) := by simp
 by_cases hz0 : len * esz = 0
 ·have hl0 : len = 0 := by rcases Nat.mul_eq_zero.1 hz0 with h | h; · exact h
                           ·omega
  subst hl0
  have hpl : parts.toList = [] := by
   generalize parts.toList = pl at hp
   cases hp with
   | nil => rfl
   | cons e hle => simp at e; obtain ⟨rfl, rfl, rfl⟩ := e; rw [rep_len] at hle; omega
  have hpa : parts = #[] := by apply Array.ext'; simpa using hpl
  subst hpa
  simp [Instr.fill] at hfill
  subst hfill
  simp [execOp, ho, Instr.buildSlice, run_underlying hd, sizeOf, typeInfo, hi, hsz, Instr.fill, newRow, Array.range_zero']
 ·simp only [execOp, ho, Instr.buildSlice, Sem.run_bind, run_underlying hd, Result.andThen_ok]
  simp [sizeOf, typeInfo, hi, hsz, hz0, zeroValue, hz, hvs, show ¬ (16777216 < len * esz) by omega, hfill, newRow]
theorem spec_makeSlice {t e : TypeId} {l c : Operand} {vl vc : Value} {esz eb : Nat} {z : List Value} {ti : TI} {n : Nat × Nat} (ho : o.op = .makeSlice t l c) (ht : TIok P t ti) (hk : ti.k = .slice e esz eb z)
 (hl : Ev X st l (.val vl)) (hc : Ev X st c (.val vc)) (h : mkLen eb vl vc = some n) :
 OpSpec P X o st (.val (newSl st.hp n.1 (mkCap (n.1 = n.2) n.1))) st.loc (st.hp ++ [⟨rep n.2 z, esz, .rw, st.hp.length, true⟩]) .A := by
 obtain ⟨d, hd, _, hkk⟩ := ht.und
 rw [hk] at hkk
 obtain ⟨rfl, i, v, hi, hsz, hby, hz, hzc, hzl, h0, hb0, hzp⟩ := hkk
 refine specA_push fun ι ρ a w B hr hR => ?_
 have h1 := hl.relv hr (by simp [ho, Op.operands])
 have h2 := hc.relv hr (by simp [ho, Op.operands])
 unfold mkLen at h
 split at h
 ·rename_i li ci
  split at h
  ·rename_i hh
   cases h
   obtain ⟨hh0, hh1, hh2, hh3⟩ := hh
   generalize hql : a.eval l = ql at *
   generalize hqc : a.eval c = qc at *
   cases h1; cases h2
   have hb' : (i.bytes : Int) * ci <= 281474976710656 := by
    rw [hby]
    have : (eb : Int) * ci = ((ci.toNat * eb : Nat) : Int) := by
     rw [Int.natCast_mul, Int.toNat_of_nonneg (by omega), Int.mul_comm]
    omega
   have hrun := run_make (P := P) w t e i v hd hi hz .i64 .i64 li ci hh0 hh1 hb' hh3
   have hvs : v.cells.size = esz := by rw [<- hzl, <- hzc]; simp
   have hmc : madeCells v.cells (ci.toNat * i.size) = (Array.range (ci.toNat * v.cells.size)).map (v.cells[· % v.cells.size]!) := by rw [hsz, <- hvs]; rfl
   have hzr := zeros_VRs (ι := ι) hzc hzp ci.toNat
   rw [<- hmc] at hzr
   have hsz2 : (madeCells v.cells (ci.toNat * i.size)).size = ci.toNat * esz := by rw [size_madeCells, hsz]
   refine ⟨.slice (some ⟨w.heap.size, 0, none⟩) li.toNat ci.toNat, w.alloc (.cells (madeCells v.cells (ci.toNat * i.size)) e), _, _, (0, 0), by simp [execOp, ho, hql, hqc, hrun], rfl, .inl (Nat.le_refl _), rfl, rfl, rfl, ?_, cellsR_vrs hzr fun u hu => pureV1_one (hzp u (rep_mem hu)), fun ι' e => newSl_VR e (by omega) ?_ (by rw [hsz2]; exact Nat.le_refl _)⟩
   ·rw [hsz2, rep_len, hzl]; exact Nat.le_refl _
   ·intro hc; unfold mkCap at hc; split at hc
    ·rename_i e; simp only at e ⊢; exact e.symm
    ·simp only at hc; omega
  ·cases h
 ·cases h
end
end Go.AM

/- append, and what else reads or writes the heap. -/
namespace Go.AM
set_option linter.unusedSimpArgs false
set_option linter.unusedVariables false
section
variable {P : Program} {X : Ctx} {o : Oper} {st : St}
theorem run_firstCells_zero (size : Nat) (a : Addr) (l c : Nat) (w : World) : (Builtin.firstCells size 0 (.slice (some a) l c)).run P w = .ok #[] w := by
 simp [Builtin.firstCells, loadCells, loadCellsFrom]
theorem hRead_src {ng : Nat} {ι : Inj} {hp : Heap} {w : World} {B : Nat} (hR : Rel ng ι hp w B) {sz : Nat} {x x' : Value} {cells : List Value} (h : hRead hp sz x = some cells) (hx : VR ι x x') {tx : TypeId}
 (hk : (∃ a n c, x = .slice a n c) -> ∃ e', P.underlying tx = some (.slice e')) (hs : (∃ s, x = .string s) -> P.underlying tx = some .string) :
 ∃ news, VRs ι cells news /\ (∀ u ∈ cells, u.oneCell' = true) /\ Src P sz tx x' (lenV x) news w := by
 cases hx with
 | nils =>
   simp only [hRead] at h; cases h
   obtain ⟨e', he⟩ := hk ⟨_, _, _, rfl⟩
   exact ⟨[], .nil, fun u hu => absurd hu (by simp), Src.ofNil w he 0⟩
 | slz a a' c c' =>
   obtain ⟨e', he⟩ := hk ⟨_, _, _, rfl⟩
   have hc : cells = [] := by
    unfold hRead at h
    split at h
    ·cases h; rfl
    ·rename_i heq; cases heq; simp at h; exact h
    ·cases h; rfl
    ·rename_i heq; cases heq
    ·cases h
   subst hc
   exact ⟨[], .nil, fun u hu => absurd hu (by simp), Src.ofSlice w he a' 0 c' [] (by simp) (fun j u e => by simp at e) (fun u hu => absurd hu (by simp))⟩
 | @slc b off n c c' y hy h0 hnc hcf hroom =>
   obtain ⟨e', he⟩ := hk ⟨_, _, _, rfl⟩
   simp only [hRead] at h
   rw [if_neg (by omega)] at h
   cases e : blkAt hp b with
   | none => rw [e] at h; cases h
   | some k =>
     rw [e] at h
     simp only [Option.bind_some] at h
     split at h
     ·rename_i hsz
      unfold cut at h
      split at h
      ·rename_i hle
       cases h
       obtain ⟨cs, el, fr, hb, hz, hlen, hc, _⟩ := hR.ok _ _ _ hy e
       have hcl : ((k.cells.drop off).take (n * sz)).length = n * sz := by simp; omega
       have hget : ∀ (j : Nat) (v : Value), ((k.cells.drop off).take (n * sz))[j]? = some v -> v.oneCell' = true /\ ∃ v', cs[y.off + off + j]? = some v' /\ VR ι v v' := by
        intro j v e
        have hj : j < n * sz := by rw [<- hcl]; exact (List.getElem?_eq_some_iff.1 e).1
        rw [List.getElem?_take_of_lt hj, List.getElem?_drop] at e
        obtain ⟨h1, v', e', hv⟩ := hc _ _ e
        exact ⟨h1, v', by rw [<- e']; congr 1; omega, hv⟩
       have hnews : ∀ (j : Nat) (u : Value), ((List.range (n * sz)).map fun j => cs.getD (y.off + off + j) undef)[j]? = some u -> cs[y.off + off + j]? = some u := by
        intro j u e
        have hj : j < n * sz := by have := (List.getElem?_eq_some_iff.1 e).1; simpa using this
        obtain ⟨_, v', e', _⟩ := hget j _ (List.getElem?_eq_getElem (by omega))
        simp [hj, e'] at e
        rw [e', e]
       refine ⟨(List.range (n * sz)).map fun j => cs.getD (y.off + off + j) undef, VRs.of_get (by simp; omega) fun j v v' e e' => ?_, fun u hu => ?_, Src.ofSlice w he _ n c' _ (by simp) (fun j u e => ?_) (fun u hu => ?_)⟩
       ·obtain ⟨_, q, e2, hv⟩ := hget j v e
        have := hnews j v' e'
        rw [e2] at this; cases this; exact hv
       ·obtain ⟨j, hj⟩ := List.getElem?_of_mem hu
        exact (hget j u hj).1
       ·rw [add_plain]; simp only [World.cell?, hb]; simpa using hnews j u e
       ·obtain ⟨j, hj⟩ := List.getElem?_of_mem hu
        have hjl : j < n * sz := by have := (List.getElem?_eq_some_iff.1 hj).1; simpa using this
        obtain ⟨h1, v', e', hv⟩ := hget j _ (List.getElem?_eq_getElem (by omega))
        have := hnews j u hj
        rw [e'] at this; cases this
        exact hv.one h1
      ·cases h
     ·cases h
 | str s =>
   have hts := hs ⟨s, rfl⟩
   simp only [hRead] at h
   split at h
   ·rename_i h1
    cases h; subst h1
    refine ⟨byteCells s, ?_, fun u hu => ?_, Src.ofString w hts s⟩
    ·refine VRs_pure fun u hu => ?_
     obtain ⟨_, _, rfl⟩ := List.mem_map.1 hu; rfl
    ·obtain ⟨_, _, rfl⟩ := List.mem_map.1 hu; rfl
   ·cases h
 | _ => simp [hRead] at h
theorem zeroCells_size (z : Array Value) (n : Nat) : (Builtin.zeroCells z n).size = n * z.size := by simp [Builtin.zeroCells]
theorem hRead_len {hp : Heap} {sz : Nat} {x : Value} {cells : List Value} (h : hRead hp sz x = some cells) (hl : ∀ l c, x = .slice none l c -> l = 0) : cells.length = lenV x * sz := by
 unfold hRead at h
 split at h
 ·rename_i l c; cases h; simp [lenV, hl _ _ rfl]
 ·rename_i b o n c
  split at h
  ·rename_i h0; cases h; simp [lenV, h0]
  ·cases e : blkAt hp b with
   | none => rw [e] at h; cases h
   | some k =>
     rw [e] at h
     simp only [Option.bind_some] at h
     split at h
     ·unfold cut at h; split at h
      ·cases h; simp [lenV]; omega
      ·cases h
     ·cases h
 ·cases h; simp [lenV]
 ·split at h
  ·rename_i h1; cases h; subst h1; simp [lenV, bytesV]
  ·cases h
 ·cases h
theorem append_grow {ng : Nat} {ι : Inj} {hp : Heap} {w : World} {B : Nat} (hR : Rel ng ι hp w B) {t u ty e : TypeId} {i : TypeInfo} {z : Value} (hd : P.underlying t = some (.slice e)) (hi : P.info? e = some i) (hz : i.zero = some z)
 (hzs : z.cells.size = i.size) {s s' x x' : Value} {old new : List Value} (hs : VR ι s s') (hx : VR ι x x') (ho : hRead hp i.size s = some old) (hn : hRead hp i.size x = some new)
 (hku : (∃ a n c, x = .slice a n c) -> ∃ e', P.underlying u = some (.slice e')) (hsu : (∃ s, x = .string s) -> P.underlying u = some .string)
 {a : Option Addr} {n c : Nat} (hse : s = .slice a n c) {q : Option Addr} {c' : Nat} (hse' : s' = .slice q n c') (hg : c' < n + lenV x) (hby : (n + lenV x) * i.bytes <= 140737488355328) (h63 : n + lenV x <= 9223372036854775807) :
 ∃ cs, (Builtin.append_ #[t, u] ty #[s', x']).run P w = .ok (.slice (some ⟨w.heap.size, 0, none⟩) (n + lenV x) (grownCap w (n + lenV x) c' e)) (w.drew.alloc (.cells cs e)) ∧
   cs.size = grownCap w (n + lenV x) c' e * i.size /\ CellsR ι (old ++ new) cs 0 := by
 subst hse hse'
 obtain ⟨olds, ho1, ho2, hso⟩ := hRead_src hR ho hs (tx := t) (fun _ => ⟨e, hd⟩) (fun ⟨s, h⟩ => by cases h)
 obtain ⟨news, hn1, hn2, hsn⟩ := hRead_src hR hn hx hku hsu
 have hrun := run_append_grow_src (P := P) w t u ty e i z hd hi hz q n c' olds hso.cellsD x' (lenV x) news hsn hg (by omega) (growslice_fits hg hby)
 have hge := grownCap_ge w (n + lenV x) c' e
 refine ⟨_, hrun, ?_, ?_⟩
 ·have h1 := hso.newsLen
  have h2 := hsn.newsLen
  simp only [lenV] at h1
  simp only [Array.size_append, List.size_toArray, List.length_append, zeroCells_size, h1, h2, hzs]
  rw [<- Nat.add_mul, <- Nat.add_mul]
  congr 1; omega
 ·refine cellsR_of (fun j v ev => ?_) (fun u hu => (List.mem_append.1 hu).elim (ho2 u) (hn2 u))
  obtain ⟨q, hq, hv⟩ := (ho1.append hn1).get ev
  refine ⟨q, ?_, hv⟩
  have hj : j < (olds ++ news).length := (List.getElem?_eq_some_iff.1 hq).1
  rw [Array.getElem?_append_left (by simpa using hj)]
  simpa using hq
end
end Go.AM

/- append and store to the heap; calls. -/
namespace Go.AM
set_option linter.unusedSimpArgs false
set_option linter.unusedVariables false
theorem VRsl {ι : Inj} {a : Option Addr} {n c : Nat} {x : Value} (h : VR ι (.slice a n c) x) : ∃ q c', x = .slice q n c' /\ n <= c' /\ (c = n -> c' = n) /\ (∀ l k, (.slice a n c : Value) = .slice none l k -> l = 0) := by
 cases h with
 | nils => exact ⟨_, _, rfl, Nat.le_refl _, fun _ => rfl, fun l c h => by cases h; rfl⟩
 | slc _ _ h1 h2 => exact ⟨_, _, rfl, h1, h2, fun l c h => by cases h⟩
 | slz _ _ _ _ h => exact ⟨_, _, rfl, Nat.zero_le _, h, fun l c h => by cases h⟩
structure Weak (hp hp' : Heap) : Prop where
 len : hp'.length = hp.length
 get : ∀ (c : Nat) (q' : Blk), hp'[c]? = some q' -> ∃ q : Blk, hp[c]? = some q /\ (q'.sz = q.sz /\ q'.pl = q.pl) ∧
  (q'.md ≠ .gone -> q.md ≠ .gone /\ q'.cells = q.cells /\ q'.fam = q.fam /\ (q'.md = .rw -> q.md = .rw) /\ (q.md = .ro -> q'.md = .ro))
theorem Weak.blk {hp hp' : Heap} (h : Weak hp hp') {c : Nat} {q' : Blk} (hq : blkAt hp' c = some q') : ∃ q, blkAt hp c = some q /\ q'.cells = q.cells /\ q'.fam = q.fam /\ (q'.md = .rw -> q.md = .rw) /\ (q.md = .ro -> q'.md = .ro) := by
 obtain ⟨h1, h2, _⟩ := blkAt_some hq
 obtain ⟨q, g1, _, g2⟩ := h.get c q' h1
 obtain ⟨g3, g4⟩ := g2 h2
 exact ⟨q, blkAt_mk g1 g3, g4⟩
theorem Weak.blkp {hp hp' : Heap} (h : Weak hp hp') {c : Nat} {q' : Blk} (hq : blkAt hp' c = some q') : ∃ q, blkAt hp c = some q /\ q'.cells = q.cells /\ q'.pl = q.pl /\ (q'.md = .rw -> q.md = .rw) := by
 obtain ⟨h1, h2, _⟩ := blkAt_some hq
 obtain ⟨q, g1, g0, g2⟩ := h.get c q' h1
 obtain ⟨g3, g4, _, g5, _⟩ := g2 h2
 exact ⟨q, blkAt_mk g1 g3, g4, g0.2, g5⟩
theorem rel_weak {ng : Nat} {ι : Inj} {hp hp' : Heap} {w : World} {B : Nat} (hR : Rel ng ι hp w B) (h : Weak hp hp') : Rel ng ι hp' w B := by
 refine ⟨hR.glob, fun c x q' hc hq => ?_, fun c x hc => by rw [h.len]; exact hR.dom c x hc, hR.base, fun c x q' hc hq => ?_, fun c x k c' x' k' h1 h2 h3 h4 h5 he => ?_⟩
 ·obtain ⟨q, g1, g2, _⟩ := h.get c q' hq
  rw [g2.1]; exact hR.szs c x q hc g1
 ·obtain ⟨q, g1, g2, g3, g4⟩ := h.blkp hq
  obtain ⟨cs, el, fr, m1, m2, m3, m4, m5⟩ := hR.ok c x q hc g1
  exact ⟨cs, el, fr, m1, m2, by rw [g2]; exact m3, by rw [g2]; exact m4, fun hrw => by rw [g3]; exact m5 (g4 hrw)⟩
 ·obtain ⟨q, g1, g2, g3, g4, _⟩ := h.blk h2
  obtain ⟨q2, f1, f2, f3, _, f5⟩ := h.blk h5
  rcases hR.sep c x q c' x' q2 h1 g1 (g4 h3) h4 f1 he with e | ⟨e1, e2, e3, e4⟩
  ·exact .inl e
  ·exact .inr ⟨e1, f5 e2, by rw [f3, g3]; exact e3, by rw [f2, g2]; exact e4⟩
theorem Weak.sz {hp hp' : Heap} (h : Weak hp hp') : SzKeep hp hp' := fun b k hk => by
 have hb : b < hp'.length := by rw [h.len]; exact (List.getElem?_eq_some_iff.1 hk).1
 obtain ⟨q, g1, g2, _⟩ := h.get b _ (List.getElem?_eq_getElem hb)
 rw [hk] at g1; cases g1
 exact ⟨_, List.getElem?_eq_getElem hb, g2.1⟩
theorem weak_fam (hp : Heap) (f : Nat) : Weak hp (killFam hp f) := by
 refine ⟨by simp [killFam], fun c q' h => ?_⟩
 simp only [killFam, List.getElem?_map, Option.map_eq_some_iff] at h
 obtain ⟨q, hq, rfl⟩ := h
 refine ⟨q, hq, ⟨by split <;> rfl, by split <;> rfl⟩, fun hm => ?_⟩
 split at hm
 ·exact absurd rfl hm
 ·rename_i hf; rw [if_neg hf]; exact ⟨hm, rfl, rfl, id, id⟩
theorem killFam_len (hp : Heap) (f : Nat) : (killFam hp f).length = hp.length := by simp [killFam]
theorem killFam_blk {hp : Heap} {f c : Nat} {q : Blk} (h : blkAt (killFam hp f) c = some q) : blkAt hp c = some q /\ q.fam ≠ f := by
 obtain ⟨h1, h2, _⟩ := blkAt_some h
 simp only [killFam, List.getElem?_map, Option.map_eq_some_iff] at h1
 obtain ⟨q0, hq, e⟩ := h1
 split at e
 ·subst e; exact absurd rfl h2
 ·rename_i hf; subst e; exact ⟨blkAt_mk hq h2, hf⟩
theorem weak_but {hp : Heap} {b : Nat} {k : Blk} (hk : hp[b]? = some k) : Weak hp ((killFam hp k.fam).set b k) := by
 have hb : b < hp.length := (List.getElem?_eq_some_iff.1 hk).1
 refine ⟨by simp [killFam], fun c q' h => ?_⟩
 rw [List.getElem?_set] at h
 split at h
 ·rename_i e; subst e
  rw [killFam_len, if_pos hb] at h; cases h
  exact ⟨k, hk, ⟨rfl, rfl⟩, fun hm => ⟨hm, rfl, rfl, id, id⟩⟩
 ·exact (weak_fam hp k.fam).get c q' h
theorem weak_ro {hp : Heap} {b : Nat} {k : Blk} (hk : hp[b]? = some k) (hg : k.md ≠ .gone) : Weak hp (hp.set b { k with md := .ro }) := by
 have hb : b < hp.length := (List.getElem?_eq_some_iff.1 hk).1
 refine ⟨by simp, fun c q' h => ?_⟩
 rw [List.getElem?_set] at h
 split at h
 ·rename_i e; subst e
  cases h
  exact ⟨k, hk, ⟨rfl, rfl⟩, fun _ => ⟨hg, rfl, rfl, (fun h => by cases h), fun _ => rfl⟩⟩
 ·exact ⟨q', h, ⟨rfl, rfl⟩, fun hm => ⟨hm, rfl, rfl, id, id⟩⟩
theorem weak_use {hp : Heap} {b : Nat} {k : Blk} (hk : blkAt hp b = some k) (e : Nat) : Weak hp (useUp hp b k e) := by
 obtain ⟨h1, h2, _⟩ := blkAt_some hk
 unfold useUp
 split
 ·exact weak_ro h1 h2
 ·exact weak_fam hp k.fam
theorem use_other {ng : Nat} {ι : Inj} {hp : Heap} {w : World} {B b e : Nat} {k : Blk} {y : Img} (hR : Rel ng ι hp w B) (hy : ι b = some y) (hk : blkAt hp b = some k) (hrw : k.md = .rw) {c : Nat} {x : Img} {q : Blk} (hc : ι c = some x) (hq : blkAt (useUp hp b k e) c = some q)
 (hx : x.blk = y.blk) : e = k.cells.length /\ q.md = .ro /\ q.fam = k.fam /\ x.off + q.cells.length <= y.off + k.cells.length := by
 obtain ⟨hk1, hk2, hbl⟩ := blkAt_some hk
 by_cases he : e = k.cells.length
 ·unfold useUp at hq
  rw [if_pos he] at hq
  refine ⟨he, ?_⟩
  by_cases hcb : c = b
  ·subst hcb
   have := (blkAt_some hq).1
   rw [List.getElem?_set, if_pos rfl, if_pos hbl] at this
   cases this
   rw [hy] at hc; cases hc
   exact ⟨rfl, rfl, Nat.le_refl _⟩
  ·obtain ⟨g1, g2, _⟩ := blkAt_some hq
   rw [List.getElem?_set, if_neg (Ne.symm hcb)] at g1
   rcases hR.sep b y k c x q hy hk hrw hc (blkAt_mk g1 g2) hx.symm with h | ⟨_, h⟩
   ·exact absurd h.symm hcb
   ·exact h
 ·exfalso
  unfold useUp at hq
  rw [if_neg he] at hq
  obtain ⟨g1, g2⟩ := killFam_blk hq
  rcases hR.sep b y k c x q hy hk hrw hc g1 hx.symm with h | ⟨_, _, h, _⟩
  ·subst h; rw [hk] at g1; cases g1; exact g2 rfl
  ·exact g2 h
theorem SzKeep.set {hp : Heap} {b : Nat} {k q : Blk} (hk : hp[b]? = some k) (hs : q.sz = k.sz) : SzKeep hp (hp.set b q) := by
 intro c r hr
 have hb : b < hp.length := (List.getElem?_eq_some_iff.1 hk).1
 rw [List.getElem?_set]
 split
 ·rename_i e; subst e; rw [hk] at hr; cases hr; exact ⟨q, by simp [hb], hs⟩
 ·exact ⟨r, hr, rfl⟩
theorem SzKeep.append {hp hp' : Heap} (h : SzKeep hp hp') (l : Heap) : SzKeep hp (hp' ++ l) := by
 intro c r hr
 obtain ⟨k, hk, hs⟩ := h c r hr
 exact ⟨k, by rw [List.getElem?_append_left (List.getElem?_eq_some_iff.1 hk).1]; exact hk, hs⟩
theorem SzKeep.refl (hp : Heap) : SzKeep hp hp := fun _ r hr => ⟨r, hr, rfl⟩
section
variable {P : Program} {X : Ctx} {o : Oper} {st : St}
theorem le_of_bytes {n b : Nat} (h0 : 0 < b) (h : n * b <= 140737488355328) : n <= 140737488355328 := Nat.le_trans (Nat.le_mul_of_pos_right n h0) h
theorem hnilx {ng : Nat} {ι : Inj} {hp : Heap} {w : World} {B sz : Nat} {x x' : Value} {cells : List Value} (_ : Rel ng ι hp w B) (_ : hRead hp sz x = some cells) (hx : VR ι x x') : ∀ l c, x = .slice none l c -> l = 0 := by
 intro l c e; subst e; cases hx; rfl
def SrcTy (P : Program) (u : TypeId) (v : Value) : Prop := ((∃ a n c, v = .slice a n c) -> ∃ e', P.underlying u = some (.slice e')) /\ ((∃ s, v = .string s) -> P.underlying u = some .string)
theorem spec_appFull {t u e : TypeId} {c : Call} {s x : Operand} {vs vx : Value} {ti : TI} {esz eb : Nat} {z : List Value} {r : Value × Heap} (ho : o.op = .call c) (hcal : c.callee = .builtin .append) (hargs : c.args.toList = [s, x]) (htys : c.argTypes.toList = [t, u])
 (ht : TIok P t ti) (hk : ti.k = .slice e esz eb z) (hu : SrcTy P u vx) (hs : Ev X st s (.val vs)) (hx : Ev X st x (.val vx)) (h : hAppFull st.hp esz eb vs vx = some r) :
 OpSpec P X o st (.val r.1) st.loc r.2 .A := by
 obtain ⟨d, hd, _, hkk⟩ := ht.und
 rw [hk] at hkk
 obtain ⟨rfl, i, v, hi, hsz, hby, hz, hzc, hzl, h0, hb0, hzp⟩ := hkk
 have hzs : v.cells.size = i.size := by rw [hsz, <- hzl, <- hzc]; simp
 have ha : c.args = #[s, x] := by apply Array.ext'; simpa using hargs
 have hty : c.argTypes = #[t, u] := by apply Array.ext'; simpa using htys
 have hms : s ∈ o.op.operands := by simp [ho, Op.operands, Call.operands, hcal, ha]
 have hmx : x ∈ o.op.operands := by simp [ho, Op.operands, Call.operands, hcal, ha]
 have hexec : ∀ a : Act, execOp a.eval o = (do pure (.value (<- Builtin.append_ #[t, u] o.type #[a.eval s, a.eval x]))) := by
  intro a; simp [execOp, ho, resolve, hcal, ha, hty, invoke, builtin]
 unfold hAppFull at h
 split at h
 ·rename_i aa n cc
  cases hn : hRead st.hp esz vx with
  | none => rw [hn] at h; cases h
  | some new =>
  rw [hn] at h
  simp only [Option.bind_some] at h
  split at h
  ·rename_i hl0
   cases h
   refine ⟨rfl, ⟨[], by simp⟩, _, rfl, fun ι ρ a w B Nx Q hr hR hN => ?_⟩
   have h1 := hs.relv hr hms
   have h2 := hx.relv hr hmx
   obtain ⟨q, c', hq, hnc, _⟩ := VRsl h1
   obtain ⟨news, hn1, hn2, hsn⟩ := hRead_src hR hn h2 hu.1 hu.2
   have hnl : news = [] := by have := hsn.newsLen; rw [hl0] at this; simpa using this
   rw [hl0, hnl] at hsn
   rw [<- hsz] at hsn
   have hrun : (Builtin.append_ #[t, u] o.type #[a.eval s, a.eval x]).run P w = .ok (a.eval s) w := by
    rw [hq]
    rcases hsn.kind with ⟨e', hk'⟩ | hk' <;>
     (cases q <;> simp [Builtin.append_, run_underlying hd, run_underlying hk', sizeOf, typeInfo, hi, hsn.len, hnc, hsn.cells, storeCells])
   refine wp_of_run (by rw [hexec]; simp [hrun]) (hN ι _ w (fun _ _ => rfl) (fun b x _ hb hx _ => absurd (hR.dom _ _ hx) (by omega)) (by simpa using hR) ⟨rfl, rfl, rfl, Nat.le_refl _, fun _ _ _ => rfl⟩ h1)
  ·split at h
   ·rename_i hl0 hc
    obtain ⟨hcn, hbytes⟩ := hc
    cases hold : hRead st.hp esz (.slice aa n cc) with
    | none => rw [hold] at h; cases h
    | some old =>
    rw [hold] at h
    simp only [Option.bind_some] at h
    cases h
    refine specA_push fun ι ρ a w B hr hR => ?_
    have h1 := hs.relv hr hms
    have h2 := hx.relv hr hmx
    obtain ⟨q, c', hq, hnc, hfull, hnil⟩ := VRsl h1
    have hc' := hfull hcn
    have hle := le_of_bytes hb0 hbytes
    rw [<- hsz] at hold hn
    rw [<- hby] at hbytes
    obtain ⟨cs, hrun, hcs, hcr⟩ := append_grow hR (t := t) (u := u) (ty := o.type) hd hi hz hzs h1 h2 hold hn hu.1 hu.2 rfl hq (by omega) hbytes (by omega)
    have hlen := hRead_len hold hnil
    have hlen2 := hRead_len hn (hnilx hR hn h2)
    have hge := grownCap_ge w (n + lenV vx) c' e
    simp only [lenV] at hlen
    refine ⟨.slice (some ⟨w.heap.size, 0, none⟩) (n + lenV vx) (grownCap w (n + lenV vx) c' e), w.drew.alloc (.cells cs e), cs, e, (0, 0), by rw [hexec]; simp [hrun], rfl, .inl (Nat.le_refl _), rfl, rfl, rfl, ?_, hcr, fun ι' e => newSl_VR e hge (by omega) (by rw [hcs, hsz]; exact Nat.le_refl _)⟩
    show (old ++ new).length <= cs.size
    rw [hcs, List.length_append, hlen, hlen2, <- Nat.add_mul]
    exact Nat.mul_le_mul_right _ hge
   ·cases h
 ·cases h
end
end Go.AM

/- append where there may be room; stores to the heap; calls. -/
namespace Go.AM
set_option linter.unusedSimpArgs false
set_option linter.unusedVariables false
section
variable {P : Program} {X : Ctx} {o : Oper} {st : St}
theorem rel_set {ng : Nat} {ι : Inj} {hp : Heap} {w w' : World} {B b : Nat} {k : Blk} {y : Img} {new : List Value} (hR : Rel ng ι hp w B) (hy : ι b = some y) (hk : blkAt hp b = some k) (hrw : k.md = .rw)
 (hexc : ∀ c x q, ι c = some x -> blkAt hp c = some q -> x.blk = y.blk -> c = b)
 (hlen : new.length = k.cells.length) {cs' : Array Value} {el : TypeId} {fr : Nat × Nat} (hfr : NoFr k.pl cs'.size fr) (hb : w'.heap[y.blk]? = some (.cells cs' el fr)) (hz : cs'.size = y.off + y.room) (hc : CellsR ι new cs' y.off)
 (hrest : ∀ j, j ≠ y.blk -> w'.heap[j]? = w.heap[j]?) (hsize : w'.heap.size = w.heap.size) : Rel ng ι (hp.set b { k with cells := new }) w' B := by
 obtain ⟨hk1, hk2, hbl⟩ := blkAt_some hk
 have blk : ∀ c q, blkAt (hp.set b { k with cells := new }) c = some q -> (c = b /\ q = { k with cells := new }) ∨ (c ≠ b /\ blkAt hp c = some q) := by
  intro c q h
  obtain ⟨h1, h2, _⟩ := blkAt_some h
  rw [List.getElem?_set] at h1
  split at h1
  ·rename_i e; simp [hbl] at h1; exact .inl ⟨e.symm, h1.symm⟩
  ·rename_i e; exact .inr ⟨fun h => e h.symm, blkAt_mk h1 h2⟩
 refine ⟨hR.glob, fun c x q hc' hq => ?_, fun c x hc' => by simpa using hR.dom c x hc', by rw [hsize]; exact hR.base, fun c x q hc' hq => ?_, fun c x q c' x' q' h1 h2 h3 h4 h5 he => ?_⟩
 ·rw [List.getElem?_set] at hq
  split at hq
  ·rename_i e; simp [hbl] at hq; subst e; rw [<- hq]; exact hR.szs b x k hc' hk1
  ·exact hR.szs c x q hc' hq
 ·rcases blk c q hq with ⟨rfl, rfl⟩ | ⟨hne, h⟩
  ·rw [hy] at hc'; cases hc'
   obtain ⟨_, _, _, _, _, hl, _, hB⟩ := hR.ok c y k hy hk
   exact ⟨cs', el, fr, hb, hz, by show new.length <= _; rw [hlen]; exact hl, hc, fun _ => ⟨hfr, (hB hrw).2⟩⟩
  ·obtain ⟨cs, el2, fr2, e, h1, h2, h3, h4⟩ := hR.ok c x q hc' h
   have : x.blk ≠ y.blk := fun e => hne (hexc c x q hc' h e)
   exact ⟨cs, el2, fr2, by rw [hrest _ this]; exact e, h1, h2, h3, h4⟩
 ·rcases blk c q h2 with ⟨rfl, rfl⟩ | ⟨hne, h⟩ <;> rcases blk c' q' h5 with ⟨rfl, rfl⟩ | ⟨hne', h'⟩
  ·exact .inl rfl
  ·rw [hy] at h1; cases h1; exact absurd (hexc c' x' q' h4 h' he.symm) hne'
  ·rw [hy] at h4; cases h4; exact absurd (hexc c x q h1 h he) hne
  ·exact hR.sep c x q c' x' q' h1 h h3 h4 h' he
theorem spec_storeH {t : TypeId} {x y : Operand} {ti : TI} {p v : Value} {cs : List Value} {hp' : Heap} (ho : o.op = .store t x y) (ht : TIok P t ti) (hx : Ev X st x (.val p)) (hy : Ev X st y (.val v))
 (hc : CellsOf ti.agg ti.size v cs) (h : hStore st.hp p cs = some hp') : OpSpec P X o st .skp st.loc hp' .W := by
 unfold hStore at h
 split at h
 ·rename_i b off
  cases e : blkAt st.hp b with
  | none => rw [e] at h; cases h
  | some k =>
    rw [e] at h
    simp only [Option.bind_some] at h
    split at h
    ·rename_i hcond
     obtain ⟨hrw, hle⟩ := hcond
     cases h
     obtain ⟨ek1, ek2, ekb⟩ := blkAt_some e
     have hset : (killFam st.hp k.fam).set b { k with cells := setSeg k.cells off cs } = ((killFam st.hp k.fam).set b k).set b { k with cells := setSeg k.cells off cs } := by rw [List.set_set]
     have hb1 : b < (killFam st.hp k.fam).length := by rw [killFam_len]; exact ekb
     have e1k : ((killFam st.hp k.fam).set b k)[b]? = some k := by rw [List.getElem?_set, if_pos rfl, if_pos hb1]
     have hweak := weak_but ek1
     have hszk : SzKeep st.hp ((killFam st.hp k.fam).set b { k with cells := setSeg k.cells off cs }) := by
      rw [hset]
      exact fun c q hq => by
       obtain ⟨q1, g1, g2⟩ := hweak.sz c q hq
       obtain ⟨q2, g3, g4⟩ := SzKeep.set (q := { k with cells := setSeg k.cells off cs }) e1k rfl c q1 g1
       exact ⟨q2, g3, by rw [g4, g2]⟩
     refine ⟨rfl, hszk, (fun _ _ h => by cases h), fun ι ρ a w B Nx Q hr hR hN => ?_⟩
     have h1 := hx.relv hr (by simp [ho, Op.operands])
     have h2 := hy.relv hr (by simp [ho, Op.operands])
     obtain ⟨hvs, hone⟩ := hc.rel h2
     have hlen := hc.len ht.sz
     have hsz : (a.eval y).cells.size = ti.size := by have := hvs.length; simp at this; omega
     have hone' : ∀ u ∈ (a.eval y).cells.toList, u.oneCell' = true := by
      intro u hu
      obtain ⟨i, hi⟩ := List.getElem?_of_mem hu
      have hi2 : i < cs.length := by rw [hvs.length]; exact (List.getElem?_eq_some_iff.1 hi).1
      obtain ⟨q, hq, hv⟩ := hvs.get (List.getElem?_eq_getElem hi2)
      rw [hi] at hq; cases hq
      exact hv.one (hone _ (List.getElem_mem hi2))
     generalize hq : a.eval x = q at *
     cases h1 with
     | @ptr _ _ z hz =>
       obtain ⟨A, el, fr, hb, hzz, hl, hcr, hB⟩ := hR.ok _ _ _ hz e
       have hrun := storeVar_run (off := z.off + off) ht hb (hB hrw).1 hsz (by omega) hone'
       obtain ⟨A', e1, e2, e3, e4, e5, e6, e7, e8⟩ := setCells_block (a.eval y).cells.toList (z.off + off) w z.blk A el fr hb (by simp; omega)
       have hexc : ∀ c x q, ι c = some x -> blkAt ((killFam st.hp k.fam).set b k) c = some q -> x.blk = z.blk -> c = b := by
        intro c x q hc' hq' hx'
        by_cases hcb : c = b
        ·exact hcb
        ·obtain ⟨g1, g2, _⟩ := blkAt_some hq'
         rw [List.getElem?_set, if_neg (Ne.symm hcb)] at g1
         obtain ⟨g3, g4⟩ := killFam_blk (blkAt_mk g1 g2)
         rcases hR.sep b z k c x q hz e hrw hc' g3 hx'.symm with h | ⟨_, _, h, _⟩
         ·exact h.symm
         ·exact absurd h g4
       have hrel := rel_set (w' := w.setCells z.blk (z.off + off) (a.eval y).cells.toList) (rel_weak hR hweak) hz (blkAt_mk e1k ek2) hrw hexc (setSeg_len hle) (by rw [e2]; exact (hB hrw).1) e1 (by rw [e2, hzz]) (cellsR_set hcr hle hvs hone (fun i => by simpa using e3 i)) e4 e5
       rw [<- hset] at hrel
       refine wp_of_skip (by simp [execOp, ho, Instr.storeAt, Instr.sureAddr, hq, hrun]) (hN ι undef _ (fun _ _ => rfl) hrel ?_ ?_ .skp)
       rotate_left
       ·intro b' x' k' hb' hk' hx'
        by_cases hbb : b' = b
        ·subst hbb
         rw [hz] at hb'; cases hb'
         exact ⟨b', _, k, hz, e, .inl rfl, fun _ => hrw, rfl⟩
        ·obtain ⟨g1, g2, _⟩ := blkAt_some hk'
         rw [List.getElem?_set, if_neg (fun h => hbb h.symm)] at g1
         exact ⟨b', x', k', hb', (killFam_blk (blkAt_mk g1 g2)).1, .inl rfl, id, rfl⟩
       refine ⟨e6, e7, e8, by omega, fun j hj hno => e4 j fun h => ?_⟩
       exact hno _ _ _ hz e hrw h.symm
    ·cases h
 ·cases h
theorem spec_app {t u e : TypeId} {c : Call} {s x : Operand} {vs vx : Value} {ti : TI} {esz eb : Nat} {z : List Value} {r : Value × Heap} (ho : o.op = .call c) (hcal : c.callee = .builtin .append) (hargs : c.args.toList = [s, x]) (htys : c.argTypes.toList = [t, u])
 (ht : TIok P t ti) (hk : ti.k = .slice e esz eb z) (hu : SrcTy P u vx) (hs : Ev X st s (.val vs)) (hx : Ev X st x (.val vx)) (h : hApp st.hp esz eb vs vx = some r) :
 OpSpec P X o st (.val r.1) st.loc r.2 .W := by
 have weaken : OpSpec P X o st (.val r.1) st.loc r.2 .A -> OpSpec P X o st (.val r.1) st.loc r.2 .W := by
  rintro ⟨h1, ⟨new, h2⟩, v, h3, h4⟩
  cases h3
  exact ⟨h1, by rw [h2]; exact (SzKeep.refl _).append _, (fun _ _ h => by cases h), fun ι ρ a w B Nx Q hr hR hN => h4 ι ρ a w B Nx Q hr hR fun ι' v' w' a1 a2 a3 a4 a5 => hN ι' v' w' a1 a3 a4 (by rw [h2]; exact own_new hR a1 (fun b x k p q s => a2 b x k p q (by rw [h2]; exact s))) (.val a5)⟩
 unfold hApp at h
 split at h
 ·rename_i aa n cc
  split at h
  ·exact weaken (spec_appFull ho hcal hargs htys ht hk hu hs hx h)
  ·rename_i hne
   by_cases hl0 : lenV vx = 0
   ·refine weaken (spec_appFull ho hcal hargs htys ht hk hu hs hx ?_)
    rw [<- h]
    simp [hAppFull, hl0]
   ·obtain ⟨d, hd, _, hkk⟩ := ht.und
    rw [hk] at hkk
    obtain ⟨rfl, i, v, hi, hsz, hby, hz, hzc, hzl, h0, hb0, hzp⟩ := hkk
    have hzs : v.cells.size = i.size := by rw [hsz, <- hzl, <- hzc]; simp
    have ha : c.args = #[s, x] := by apply Array.ext'; simpa using hargs
    have hty : c.argTypes = #[t, u] := by apply Array.ext'; simpa using htys
    have hms : s ∈ o.op.operands := by simp [ho, Op.operands, Call.operands, hcal, ha]
    have hmx : x ∈ o.op.operands := by simp [ho, Op.operands, Call.operands, hcal, ha]
    have hexec : ∀ a : Act, execOp a.eval o = (do pure (.value (<- Builtin.append_ #[t, u] o.type #[a.eval s, a.eval x]))) := by
     intro a; simp [execOp, ho, resolve, hcal, ha, hty, invoke, builtin]
    cases hn : hRead st.hp esz vx with
    | none => rw [hn] at h; cases h
    | some new =>
    rw [hn] at h
    simp only [Option.bind_some, if_neg hl0] at h
    split at h
    ·rename_i hcond
     obtain ⟨hn0, hbytes⟩ := hcond
     cases hold : hRead st.hp esz (.slice aa n cc) with
     | none => rw [hold] at h; cases h
     | some old =>
     rw [hold] at h
     simp only [Option.bind_some] at h
     split at h
     ·rename_i b off
      cases ek : blkAt st.hp b with
      | none => rw [ek] at h; cases h
      | some k =>
      rw [ek] at h
      simp only [Option.bind_some] at h
      split at h
      ·rename_i hrw
       cases h
       obtain ⟨hk1, hk2, hbl⟩ := blkAt_some ek
       have hweak := weak_use ek (off + n * esz)
       have hL : (useUp st.hp b k (off + n * esz)).length = st.hp.length := hweak.len
       refine ⟨rfl, hweak.sz.append _, (fun _ _ h => by cases h), fun ι ρ a w B Nx Q hr hR hN => ?_⟩
       have h1 := hs.relv hr hms
       have h2 := hx.relv hr hmx
       have hle := le_of_bytes hb0 hbytes
       have hold' := hold
       have hn' := hn
       rw [<- hsz] at hold' hn'
       rw [<- hby] at hbytes
       have hlen := hRead_len hold (by intro l c e; cases e)
       have hlen2 := hRead_len hn (hnilx hR hn h2)
       simp only [lenV] at hlen
       have hkill := rel_weak hR hweak
       cases hq : a.eval s with
       | slice q n' c' =>
         rw [hq] at h1
         cases h1 with
         | @slc _ _ _ _ _ y hy _ hnc hfull hroom =>
           have hysz : y.sz = esz := by
            rw [<- hR.szs b y k hy hk1]
            simp only [hRead] at hold
            rw [if_neg (by omega), ek] at hold
            simp only [Option.bind_some] at hold
            split at hold
            ·assumption
            ·cases hold
           by_cases hroomy : n + lenV vx <= c'
           ·-- there is room
            obtain ⟨A, el, fr, hb, hzz, hl, hcr, hB⟩ := hR.ok _ _ _ hy ek
            obtain ⟨news, hn1, hn2, hsn⟩ := hRead_src hR hn' h2 hu.1 hu.2
            have hnl := hsn.newsLen
            have hspan : (n + lenV vx) * esz <= c' * esz := Nat.mul_le_mul_right _ hroomy
            have hsplit : (n + lenV vx) * esz = n * esz + lenV vx * esz := Nat.add_mul _ _ _
            have hroom' : off + c' * esz <= y.room := by rw [<- hysz]; exact hroom
            rw [hsz] at hnl
            have hni : n * i.size = n * esz := by rw [hsz]
            have hrun := run_append_room_src (P := P) w t u o.type e i hd hi y.blk (y.off + off) n c' (a.eval x) (lenV vx) news hsn hroomy (fun j hj => by
             simp only [World.cell?, hb]; simp; rw [hsz]; omega) (fun j hj => by
             simp only [World.frozen?, hb]
             obtain ⟨lo, hi'⟩ := fr
             simp
             rcases (hB hrw).1 with h | h <;> simp at h <;> omega)
            rw [hsz] at hrun
            obtain ⟨A', e1, e2, e3, e4, e5, e6, e7, e8⟩ := setCells_block news (y.off + off + n * esz) w y.blk A el fr hb (by omega)
            have hexec' : (execOp a.eval o).run P w = .ok (.value (.slice (some ⟨y.blk, y.off + off, none⟩) (n + lenV vx) c')) (w.setCells y.blk (y.off + off + n * esz) news) := by rw [hexec, hq]; simp [hrun]
            refine wp_of_run hexec' (hN (fun b' => if b' = st.hp.length then some ⟨y.blk, y.off + off, y.room - off, esz⟩ else ι b') _ _ (fun b' hb' => by show (if b' = st.hp.length then _ else _) = _; rw [if_neg (by omega)]) ?_ ?_ ?_ ?_)
            ·-- the relation
             have hsub : Sub ι (fun b' => if b' = st.hp.length then some ⟨y.blk, y.off + off, y.room - off, esz⟩ else ι b') := fun b' x' hb' => by
              show (if b' = st.hp.length then _ else _) = _
              rw [if_neg (by have := hR.dom _ _ hb'; omega)]; exact hb'
             have hother : ∀ b' x' q', ι b' = some x' -> blkAt (useUp st.hp b k (off + n * esz)) b' = some q' -> x'.blk ≠ y.blk ∨ (off + n * esz = k.cells.length /\ q'.md = .ro /\ q'.fam = k.fam /\ x'.off + q'.cells.length <= y.off + k.cells.length) := by
              intro b' x' q' hb' hq'
              by_cases hx' : x'.blk = y.blk
              ·exact .inr (use_other hR hy ek hrw hb' hq' hx')
              ·exact .inl hx'
             have hnewblk : ∀ q', blkAt (useUp st.hp b k (off + n * esz) ++ [⟨old ++ new, esz, .rw, k.fam, k.pl⟩]) st.hp.length = some q' -> q' = ⟨old ++ new, esz, .rw, k.fam, k.pl⟩ := by
              intro q' hq'
              have := (blkAt_some hq').1
              rw [List.getElem?_append_right (by omega)] at this
              simp [hL] at this; exact this.symm
             refine ⟨fun g hg => ?_, fun b' x' q' hb' hq' => ?_, fun b' x' hb' => ?_, by rw [e5]; exact hR.base, fun b' x' q' hb' hq' => ?_, fun b1 x1 q1 b2 x2 q2 g1 g2 g3 g4 g5 g6 => ?_⟩
             ·obtain ⟨x', a1, a2⟩ := hR.glob g hg; exact ⟨x', hsub _ _ a1, a2⟩
             ·by_cases hbb : b' = st.hp.length
              ·subst hbb
               rw [if_pos rfl] at hb'; cases hb'
               rw [List.getElem?_append_right (by omega)] at hq'
               simp [hL] at hq'; subst hq'; rfl
              ·rw [if_neg hbb] at hb'
               have := hR.dom _ _ hb'
               rw [List.getElem?_append_left (by omega)] at hq'
               exact hkill.szs _ _ _ hb' hq'
             ·by_cases hbb : b' = st.hp.length
              ·subst hbb; simp [hL]
              ·rw [if_neg hbb] at hb'; have := hR.dom _ _ hb'; simp [hL]; omega
             ·by_cases hbb : b' = st.hp.length
              ·subst hbb
               rw [if_pos rfl] at hb'; cases hb'
               rw [hnewblk q' hq']
               have hcr' : CellsR ι old A (y.off + off) := by
                intro j vj ej
                simp only [hRead] at hold
                rw [if_neg (by omega), ek] at hold
                simp only [Option.bind_some] at hold
                split at hold
                ·unfold cut at hold
                 split at hold
                 ·cases hold
                  have hj : j < n * esz := by have := (List.getElem?_eq_some_iff.1 ej).1; omega
                  rw [List.getElem?_take_of_lt hj, List.getElem?_drop] at ej
                  obtain ⟨o1, v', o2, o3⟩ := hcr _ _ ej
                  exact ⟨o1, v', by rw [<- o2]; congr 1; omega, o3⟩
                 ·cases hold
                ·cases hold
               refine ⟨A', el, fr, e1, by rw [e2, hzz]; show _ = y.off + off + (y.room - off); omega, by show (old ++ new).length <= y.room - off; rw [List.length_append, hlen, hlen2]; omega, ?_, fun _ => ⟨by rw [e2]; exact (hB hrw).1, (hB hrw).2⟩⟩
               refine CellsR.mono hsub ?_
               intro j vj ej
               show _ /\ ∃ v', A'[y.off + off + j]? = some v' /\ _
               rw [e3]
               by_cases hjo : j < n * esz
               ·rw [List.getElem?_append_left (by omega)] at ej
                obtain ⟨o1, v', o2, o3⟩ := hcr' j vj ej
                exact ⟨o1, v', by rw [if_neg (by omega)]; exact o2, o3⟩
               ·rw [List.getElem?_append_right (by omega)] at ej
                obtain ⟨v', o2, o3⟩ := hn1.get ej
                have : j - old.length < news.length := (List.getElem?_eq_some_iff.1 o2).1
                exact ⟨hn2 vj (List.mem_of_getElem? ej), v', by rw [if_pos (by omega), <- o2]; congr 1; omega, o3⟩
              ·rw [if_neg hbb] at hb'
               have hd' := hR.dom _ _ hb'
               rw [blkAt_append _ (by omega)] at hq'
               obtain ⟨cs2, el2, fr2, m1, m2, m3, m4, m5⟩ := hkill.ok b' x' q' hb' hq'
               rcases hother _ _ _ hb' hq' with hne' | ⟨he1, he2, he3, he4⟩
               ·exact ⟨cs2, el2, fr2, by rw [e4 _ hne']; exact m1, m2, m3, m4.mono hsub, m5⟩
               ·by_cases hxy : x'.blk = y.blk
                ·rw [hxy, hb] at m1; cases m1
                 refine ⟨A', el, fr, by rw [hxy]; exact e1, by rw [e2]; exact m2, m3, CellsR.mono hsub fun j vj ej => ?_, fun h => by rw [he2] at h; cases h⟩
                 obtain ⟨o1, v', o2, o3⟩ := m4 j vj ej
                 have hj : j < q'.cells.length := (List.getElem?_eq_some_iff.1 ej).1
                 exact ⟨o1, v', by rw [e3, if_neg (by omega)]; exact o2, o3⟩
                ·exact ⟨cs2, el2, fr2, by rw [e4 _ hxy]; exact m1, m2, m3, m4.mono hsub, m5⟩
             ·by_cases hb1 : b1 = st.hp.length <;> by_cases hb2 : b2 = st.hp.length
              ·exact .inl (by omega)
              ·subst hb1
               rw [if_pos rfl] at g1; cases g1
               rw [if_neg hb2] at g4
               have hd2 := hR.dom _ _ g4
               rw [blkAt_append _ (by omega)] at g5
               rw [hnewblk q1 g2]
               rcases hother _ _ _ g4 g5 with h | ⟨he1, he2, he3, he4⟩
               ·exact absurd g6.symm h
               ·refine .inr ⟨hd2, he2, he3, ?_⟩
                show _ <= y.off + off + (old ++ new).length
                rw [List.length_append, hlen]; omega
              ·subst hb2
               rw [if_pos rfl] at g4; cases g4
               rw [if_neg hb1] at g1
               rw [blkAt_append _ (by have := hR.dom _ _ g1; omega)] at g2
               rcases hother _ _ _ g1 g2 with h | ⟨he1, he2, he3, he4⟩
               ·exact absurd g6 h
               ·rw [he2] at g3; cases g3
              ·rw [if_neg hb1] at g1
               rw [if_neg hb2] at g4
               rw [blkAt_append _ (by have := hR.dom _ _ g1; omega)] at g2
               rw [blkAt_append _ (by have := hR.dom _ _ g4; omega)] at g5
               exact hkill.sep _ _ _ _ _ _ g1 g2 g3 g4 g5 g6
            ·exact ⟨e6, e7, e8, by omega, fun j hj hno => e4 j fun h => hno _ _ _ hy ek hrw h.symm⟩
            ·intro b' x' k' hb' hk' hx'
             change (if b' = st.hp.length then _ else _) = _ at hb'
             by_cases hbb : b' = st.hp.length
             ·subst hbb
              rw [if_pos rfl] at hb'; cases hb'
              exact ⟨b, y, k, hy, ek, .inr hrw, fun _ => hrw, rfl⟩
             ·rw [if_neg hbb] at hb'
              rw [blkAt_append _ (by have := hR.dom _ _ hb'; omega)] at hk'
              obtain ⟨q0, g1, _, _, g4, _⟩ := hweak.blk hk'
              exact ⟨b', x', q0, hb', g1, .inl rfl, g4, rfl⟩
            ·refine .val ?_
             unfold newSl
             have hι : (fun b' => if b' = st.hp.length then some (⟨y.blk, y.off + off, y.room - off, esz⟩ : Img) else ι b') st.hp.length = some ⟨y.blk, y.off + off, y.room - off, esz⟩ := by simp
             have := VR.slc (ι := fun b' => if b' = st.hp.length then some (⟨y.blk, y.off + off, y.room - off, esz⟩ : Img) else ι b') (o := 0) (n := n + lenV vx) (c := n + lenV vx + 1) (c' := c') hι (by omega) hroomy (by omega) (by show 0 + c' * esz <= y.room - off; omega)
             simpa using this
           ·-- there is none
            obtain ⟨cs, hrun, hcs, hcr⟩ := append_grow hR (t := t) (u := u) (ty := o.type) hd hi hz hzs (VR.slc hy hn0 hnc hfull hroom) h2 hold' hn' hu.1 hu.2 rfl rfl (by omega) hbytes (by omega)
            have hge := grownCap_ge w (n + lenV vx) c' e
            obtain ⟨ι', hι, f1, f2, f3, f4⟩ := rel_push hkill ⟨old ++ new, esz, .rw, k.fam, k.pl⟩ cs e (0, 0) (.inl (Nat.le_refl _)) (w' := w.drew.alloc (.cells cs e)) rfl rfl rfl rfl (by
             show (old ++ new).length <= cs.size
             rw [hcs, List.length_append, hlen, hlen2, <- Nat.add_mul, hsz]
             exact Nat.mul_le_mul_right _ hge) hcr
            have hex : (execOp a.eval o).run P w = .ok (.value (.slice (some ⟨w.heap.size, 0, none⟩) (n + lenV vx) (grownCap w (n + lenV vx) c' e))) (w.drew.alloc (.cells cs e)) := by rw [hexec, hq]; simp [hrun]
            refine wp_of_run hex (hN ι' _ _ (fun b' hb' => f1 b' (by rw [hL]; exact hb')) f3 ⟨f4.os, f4.tape, f4.output, f4.size, fun j hj _ => by
             show (w.heap.push _)[j]? = _
             rw [Array.getElem?_push, if_neg (by omega)]⟩ ?_ (.val ?_))
            ·intro b' x' k' hb' hk' hx'
             obtain ⟨b0, x0, k0, g1, g2, g5, g3, g4⟩ := own_new (new := [⟨old ++ new, esz, .rw, k.fam, k.pl⟩]) hkill f1 (fun b x _ h1 h2 _ => f2 b x h1 h2) b' x' k' hb' hk' hx'
             obtain ⟨q0, m1, _, _, m4, _⟩ := hweak.blk g2
             exact ⟨b0, x0, q0, g1, m1, g5.imp id m4, fun h => m4 (g3 h), g4⟩
            refine newSl_VR (w := w) (room := cs.size) (sz := esz) (by rw [hι]; simp [hL]) hge (by omega) (by rw [hcs, hsz]; exact Nat.le_refl _)
         | slz => omega
       | _ => rw [hq] at h1; cases h1
      ·cases h
     ·cases h
    ·cases h
 ·cases h
end
end Go.AM

/- Bytes and strings, lengths, calls: every operation. -/
namespace Go.AM
set_option linter.unusedSimpArgs false
set_option linter.unusedVariables false
def Enters (P : Program) (f : FuncId) : Prop := ∃ fn, P.funcs[f]? = some fn /\ (fn.name == "runtime.NumGoroutine") = false /\ fn.body.isNone = false
def CallOk (P : Program) (ng : Nat) (call : FuncId -> List Value -> Heap -> Option (Value × Heap)) : Prop :=
 ∀ f args hp r hp', call f args hp = some (r, hp') -> Enters P f /\ SzKeep hp hp' ∧
   ∀ ι w B (args' : Array Value), Rel ng ι hp w B -> VRs ι args args'.toList →
     Calls P f args' w fun e w' => ∃ ι' r', e = .returned r' /\ ExtN hp.length ι ι' /\ Rel ng ι' hp' w' B /\ Fr ι hp w w' /\ Own ι hp w ι' hp' /\ VR ι' r r'
def ExtOk (P : Program) (kind : FuncId -> Nat) (ext : Nat -> List Value -> Option Value) : Prop :=
 ∀ f n vs v, kind f = n + 3 -> ext n vs = some v -> ∀ ι (vs' : Array Value) w, VRs ι vs vs'.toList -> ∃ v', (callFunc f vs').run P w = .ok (.value v') w /\ VR ι v v'
structure XOk (P : Program) (X : Ctx) : Prop where
 tab : ∀ t ti, look X.tab t = some ti -> TIok P t ti
 call : CallOk P X.ng X.call
 ext : ExtOk P X.kind X.ext
theorem callFunc_enters {P : Program} {f : FuncId} (h : Enters P f) (args : Array Value) (w : World) : (callFunc f args).run P w = .ok (.enter f args) w := by
 obtain ⟨fn, h1, h2, h3⟩ := h
 simp only [callFunc, Sem.run_bind, run_program, Result.andThen_ok, h1]
 simp [h2, h3]
theorem scalar1_VR {ι ι' : Inj} {v v' : Value} (h : scalar1 v = true) (hv : VR ι' v v') : VR ι v v' := by
 cases hv <;> first | exact .bool _ | exact .int _ _ | exact .str _ | (simp [scalar1] at h)
theorem scalarV_VR {ι ι' : Inj} {v v' : Value} (h : scalarV v = true) (hv : VR ι' v v') : VR ι v v' := by
 unfold scalarV at h
 split at h
 ·cases hv with
  | @tuple cs cs' hz hc =>
    refine .tuple hz fun i u u' e e' => ?_
    have hs : scalar1 u = true := by
     simp only [Array.all_eq_true] at h
     obtain ⟨hi, rfl⟩ := Array.getElem?_eq_some_iff.1 e
     exact h i hi
    exact scalar1_VR hs (hc i u u' e e')
 ·exact scalar1_VR h hv
section
variable {P : Program} {X : Ctx} {o : Oper} {st : St}
theorem spec_lenS {c : Call} {x : Operand} {t : TypeId} {va v : Value} (ho : o.op = .call c) (hcal : c.callee = .builtin .len) (hargs : c.args.toList = [x]) (htys : c.argTypes.toList = [t]) (hd : P.underlying t = some .string)
 (hx : Ev X st x (.val va)) (h : vLenS va = some v) : OpSpec P X o st (.val v) st.loc st.hp .P := by
 have ha : c.args = #[x] := by apply Array.ext'; simpa using hargs
 have hty : c.argTypes = #[t] := by apply Array.ext'; simpa using htys
 refine specV fun ι ρ a w hr => ?_
 have h1 := hx.relv hr (by simp [ho, Op.operands, Call.operands, hcal, ha])
 unfold vLenS at h
 split at h
 ·cases h
  generalize hq : a.eval x = q at *
  cases h1
  exact ⟨_, by simp [execOp, ho, resolve, hcal, ha, hty, invoke, builtin, hq, Builtin.len_, run_underlying hd, goInt], .int _ _⟩
 ·cases h
theorem spec_lenV {c : Call} {x : Operand} {t e : TypeId} {va v : Value} (ho : o.op = .call c) (hcal : c.callee = .builtin .len) (hargs : c.args.toList = [x]) (htys : c.argTypes.toList = [t]) (hd : P.underlying t = some (.slice e))
 (hx : Ev X st x (.val va)) (h : vLenV va = some v) : OpSpec P X o st (.val v) st.loc st.hp .P := by
 have ha : c.args = #[x] := by apply Array.ext'; simpa using hargs
 have hty : c.argTypes = #[t] := by apply Array.ext'; simpa using htys
 refine specV fun ι ρ a w hr => ?_
 have h1 := hx.relv hr (by simp [ho, Op.operands, Call.operands, hcal, ha])
 unfold vLenV at h
 split at h
 ·rename_i aa n cc
  cases h
  obtain ⟨q, c2, hq, _⟩ := VRsl h1
  exact ⟨.int .i64 n, by simp [execOp, ho, resolve, hcal, ha, hty, invoke, builtin, hq, Builtin.len_, run_underlying hd, goInt], .int _ _⟩
 ·cases h
theorem spec_min {c : Call} {x y : Operand} {va vb v : Value} (ho : o.op = .call c) (hcal : c.callee = .builtin .min) (hargs : c.args.toList = [x, y]) (hx : Ev X st x (.val va)) (hy : Ev X st y (.val vb)) (h : vMin va vb = some v) : OpSpec P X o st (.val v) st.loc st.hp .P := by
 have ha : c.args = #[x, y] := by apply Array.ext'; simpa using hargs
 refine specV fun ι ρ a w hr => ?_
 have h1 := hx.relv hr (by simp [ho, Op.operands, Call.operands, hcal, ha])
 have h2 := hy.relv hr (by simp [ho, Op.operands, Call.operands, hcal, ha])
 unfold vMin at h
 split at h
 ·split at h
  ·cases h
   generalize hq : a.eval x = q at *
   generalize hq' : a.eval y = q' at *
   cases h1; cases h2
   exact ⟨_, by simp [execOp, ho, resolve, hcal, ha, invoke, builtin, Builtin.min_, hq, hq', Builtin.min2], .int _ _⟩
  ·cases h
 ·cases h
theorem call_exec {c : Call} {f : FuncId} {first : Array Operand} (ho : o.op = .call c) {fv : Operand} (hcal : c.callee = .value fv) {a : Act} {caps : Array Value} (hf : a.eval fv = .func (.func f) #[] caps) (he : Enters P f) (w : World) :
 (execOp a.eval o).run P w = .ok (.enter f (c.args.map a.eval ++ caps)) w := by
 simp [execOp, ho, resolve, hcal, hf, Deferred.ofValue, invoke, callFunc_enters he]
theorem spec_callW {c : Call} {fv : Operand} {f : FuncId} {caps : List Value} {vs : List Value} {r : Value × Heap} (hX : XOk P X) (ho : o.op = .call c) (hcal : c.callee = .value fv) (hf : Ev X st fv (.val (.func (.func f) #[] caps.toArray)))
 (hargs : Evs X st c.args.toList vs) (h : X.call f (vs ++ caps) st.hp = some r) : OpSpec P X o st (.val r.1) st.loc r.2 .W := by
 obtain ⟨he, hk, hc⟩ := hX.call _ _ _ _ _ h
 refine ⟨rfl, hk, (fun _ _ h => by cases h), fun ι ρ a w B Nx Q hr hR hN => ?_⟩
 have h1 := hf.relv hr (by simp [ho, Op.operands, Call.operands, hcal])
 have h2 := hargs.rel hr (fun x hx => by simp [ho, Op.operands, Call.operands, hcal]; exact .inr (by simpa using hx))
 generalize hq : a.eval fv = q at *
 cases h1 with
 | @fn _ _ cs' hz hcc =>
   have hcaps : VRs ι caps cs'.toList := VRs.of_get (by simpa using hz) fun i v v' e e' => hcc i v v' (by simpa using e) (by simpa using e')
   unfold Oper.wp
   rw [call_exec (first := #[]) ho hcal hq he w]
   refine (hc ι w B _ hR (by simpa using h2.append hcaps)).mono fun e w' ⟨ι', r', he, h1, h2, h3, h5, h4⟩ => ?_
   subst he
   exact hN ι' r' w' h1 h2 h3 h5 (.val h4)
theorem spec_callQ {c : Call} {fv : Operand} {f : FuncId} {caps : List Value} {vs : List Value} {v : Value} (hX : XOk P X) (ho : o.op = .call c) (hcal : c.callee = .value fv) (hf : Ev X st fv (.val (.func (.func f) #[] caps.toArray)))
 (hargs : Evs X st c.args.toList vs) (h : qcall X.call f (vs ++ caps) st.hp = some v) : OpSpec P X o st (.val v) st.loc st.hp .H := by
 unfold qcall at h
 cases hcl : X.call f (vs ++ caps) st.hp with
 | none => rw [hcl] at h; cases h
 | some r =>
   rw [hcl] at h
   simp only [Option.bind_some] at h
   split at h
   ·rename_i hcond
    obtain ⟨htake, hsc⟩ := hcond
    cases h
    obtain ⟨_, hk, _, hW⟩ := spec_callW hX ho hcal hf hargs hcl
    refine ⟨rfl, rfl, _, rfl, fun ι ρ a w B Nx Q hr hR hN => hW ι ρ a w B Nx Q hr hR fun ι' v' w' h1 h2 h3 _ h4 => ?_⟩
    cases h4 with
    | val h4 =>
    have hle : st.hp.length <= r.2.length := by have := congrArg List.length htake; simp at this; omega
    have hget : ∀ b, b < st.hp.length -> r.2[b]? = st.hp[b]? := fun b hb => by rw [<- htake, List.getElem?_take_of_lt hb]
    have hblk : ∀ b, b < st.hp.length -> blkAt r.2 b = blkAt st.hp b := fun b hb => by unfold blkAt; rw [hget b hb]
    have heq : ∀ b x, ι b = some x -> ι' b = some x := fun b x hb => by rw [h1 b (hR.dom _ _ hb)]; exact hb
    refine hN v' w' ⟨hR.glob, hR.szs, hR.dom, h2.base, fun b x k hb hbk => ?_, fun b x k b' x' k' g1 g2 g3 g4 g5 g6 => ?_⟩ h3 (scalarV_VR hsc h4)
    ·have hd := hR.dom _ _ hb
     obtain ⟨cs, el, fr, m1, m2, m3, m4, m5⟩ := h2.ok b x k (heq _ _ hb) (by rw [hblk b hd]; exact hbk)
     obtain ⟨_, _, _, _, _, _, n4, _⟩ := hR.ok b x k hb hbk
     refine ⟨cs, el, fr, m1, m2, m3, fun i v e => ?_, m5⟩
     obtain ⟨o1, u, _, o2⟩ := n4 i v e
     obtain ⟨_, v', o3, o4⟩ := m4 i v e
     exact ⟨o1, v', o3, o2.back heq o4⟩
    ·exact h2.sep b x k b' x' k' (heq _ _ g1) (by rw [hblk b (hR.dom _ _ g1)]; exact g2) g3 (heq _ _ g4) (by rw [hblk b' (hR.dom _ _ g4)]; exact g5) g6
   ·cases h
theorem spec_callA {c : Call} {fv : Operand} {f : FuncId} {caps : List Value} {vs : List Value} {r : Value × Heap} (hX : XOk P X) (ho : o.op = .call c) (hcal : c.callee = .value fv) (hf : Ev X st fv (.val (.func (.func f) #[] caps.toArray)))
 (hargs : Evs X st c.args.toList vs) (h : acall X.call f (vs ++ caps) st.hp = some r) : OpSpec P X o st (.val r.1) st.loc r.2 .A := by
 unfold acall at h
 cases hcl : X.call f (vs ++ caps) st.hp with
 | none => rw [hcl] at h; cases h
 | some r' =>
   rw [hcl] at h
   simp only [Option.bind_some] at h
   split at h
   ·rename_i htake
    cases h
    obtain ⟨_, hk, _, hW⟩ := spec_callW hX ho hcal hf hargs hcl
    have hnew : r.2 = st.hp ++ r.2.drop st.hp.length := by
     have := List.take_append_drop st.hp.length r.2
     rw [htake] at this; exact this.symm
    have hle : st.hp.length <= r.2.length := by have := congrArg List.length htake; simp at this; omega
    have hblk : ∀ b, b < st.hp.length -> blkAt r.2 b = blkAt st.hp b := fun b hb => by rw [hnew, blkAt_append _ hb]
    refine ⟨rfl, ⟨_, hnew⟩, _, rfl, fun ι ρ a w B Nx Q hr hR hN => hW ι ρ a w B Nx Q hr hR fun ι' v' w' h1 h2 h3 h5 h4 => ?_⟩
    cases h4 with
    | val h4 =>
    refine hN ι' v' w' h1 (fun b x k hb hx hk => ?_) h2 h3 h4
    rcases Nat.lt_or_ge x.blk w.heap.size with hlt | hge
    ·exfalso
     obtain ⟨b0, x0, k0, g1, g2, g3, _, g5⟩ := h5 b x k hx hk hlt
     have hb0 := hR.dom _ _ g1
     rcases g3 with g3 | g3
     ·omega
     ·have g1' : ι' b0 = some x0 := by rw [h1 b0 hb0]; exact g1
      rcases h2.sep b0 x0 k0 b x k g1' (by rw [hblk b0 hb0]; exact g2) g3 hx hk g5 with h | ⟨h, _⟩ <;> omega
    ·exact hge
   ·cases h
theorem spec_ext {c : Call} {f n : Nat} {vs : List Value} {v : Value} (hX : XOk P X) (ho : o.op = .call c) (hcal : c.callee = .value (.func f)) (hargs : Evs X st c.args.toList vs) (hk : X.kind f = n + 3) (h : X.ext n vs = some v) : OpSpec P X o st (.val v) st.loc st.hp .P := by
 refine specV fun ι ρ a w hr => ?_
 have h2 := hargs.rel hr (fun x hx => by simp [ho, Op.operands, Call.operands, hcal]; exact .inr (by simpa using hx))
 obtain ⟨v', h3, h4⟩ := hX.ext f n vs v hk h ι (c.args.map a.eval) w (by simpa using h2)
 exact ⟨v', by simp [execOp, ho, resolve, hcal, Act.eval, Deferred.ofValue, invoke]; exact h3, h4⟩
theorem spec_S2B {src dst e : TypeId} {x : Operand} {s : ByteArray} (ho : o.op = .convert src dst x) (hs : P.underlying src = some .string) (hd : P.underlying dst = some (.slice e)) (he : P.underlying e = some (.int .u8)) (hx : Ev X st x (.val (.string s))) :
 OpSpec P X o st (.val (newSl st.hp s.size (s.size + 1))) st.loc (st.hp ++ [⟨bytesV s, 1, .rw, st.hp.length, false⟩]) .A := by
 refine specA_push fun ι ρ a w B hr hR => ?_
 have h1 := hx.relv hr (by simp [ho, Op.operands])
 generalize hq : a.eval x = q at *
 cases h1
 have hrun := run_bytes_of_string (P := P) w src dst e s hs hd he
 have hge := grownCap_ge w s.size 0 e
 have hsize : (bytesRow s (grownCap w s.size 0 e)).size = grownCap w s.size 0 e := by
  simp [bytesRow]; omega
 refine ⟨.slice (some ⟨w.heap.size, 0, none⟩) s.size (grownCap w s.size 0 e), w.drew.alloc (.cells (bytesRow s (grownCap w s.size 0 e)) e ((bytesRow s (grownCap w s.size 0 e)).size, (bytesRow s (grownCap w s.size 0 e)).size + 1)), bytesRow s (grownCap w s.size 0 e), e, _, by simp [execOp, ho, hq, hrun], rfl, .inr ⟨Nat.le_refl _, rfl⟩, rfl, rfl, rfl, ?_, cellsR_of (fun i v ev => ?_) (fun u hu => ?_), fun ι' e' => newSl_VR e' hge (by omega) (by rw [hsize]; show _ * 1 <= _; omega)⟩
 ·show (bytesV s).length <= _; rw [hsize]; simp [bytesV]; exact hge
 ·refine ⟨v, ?_, ?_⟩
  ·have hi : i < (bytesV s).length := (List.getElem?_eq_some_iff.1 ev).1
   have hi' : i < s.size := by simpa [bytesV] using hi
   simp only [bytesV, List.getElem?_map] at ev
   unfold bytesRow
   rw [Array.getElem?_append_left (by simpa using hi')]
   simpa using ev
  ·have := List.mem_of_getElem? ev
   obtain ⟨_, _, rfl⟩ := List.mem_map.1 this
   exact .int _ _
 ·obtain ⟨_, _, rfl⟩ := List.mem_map.1 hu; rfl
end
end Go.AM

/- Every operation of the abstract machine. -/
namespace Go.AM
set_option linter.unusedSimpArgs false
set_option linter.unusedVariables false
theorem asBytes_ints : ∀ {cs : List Value} {bs : List UInt8}, asBytes cs = some bs -> ∃ xs : List Int, cs = xs.map (Value.int .u8) /\ bs = xs.map fun n => UInt8.ofNat n.toNat
 | [], bs, h => by simp [asBytes] at h; exact ⟨[], rfl, by simp [h]⟩
 | v :: cs, bs, h => by
   unfold asBytes at h
   split at h
   ·cases h; rename_i heq; cases heq
   ·rename_i n l heq
    cases heq
    cases e : asBytes cs with
    | none => rw [e] at h; cases h
    | some r =>
      rw [e] at h
      obtain ⟨xs, rfl, rfl⟩ := asBytes_ints e
      cases h
      exact ⟨n :: xs, rfl, rfl⟩
   ·cases h
theorem VRs_ints {ι : Inj} : ∀ {xs : List Int} {l : List Value}, VRs ι (xs.map (Value.int .u8)) l -> l = xs.map (Value.int .u8)
 | [], l, h => by cases h; rfl
 | x :: xs, l, h => by
   cases h with
   | cons h h' => cases h; rw [VRs_ints h']; rfl
section
variable {P : Program} {X : Ctx} {o : Oper} {st : St}
theorem spec_B2S {src dst e : TypeId} {x : Operand} {va v : Value} (ho : o.op = .convert src dst x) (hs : P.underlying src = some (.slice e)) (hd : P.underlying dst = some .string) (he : P.underlying e = some (.int .u8)) (hx : Ev X st x (.val va))
 (h : hB2S st.hp va = some v) : OpSpec P X o st (.val v) st.loc st.hp .H := by
 unfold hB2S at h
 split at h
 ·rename_i aa n c
  cases hr : hRead st.hp 1 (.slice aa n c) with
  | none => rw [hr] at h; cases h
  | some cs =>
  rw [hr] at h
  simp only [Option.bind_some] at h
  cases hb : asBytes cs with
  | none => rw [hb] at h; cases h
  | some bs =>
  rw [hb] at h; cases h
  obtain ⟨xs, rfl, rfl⟩ := asBytes_ints hb
  refine ⟨rfl, rfl, _, rfl, fun ι ρ a w B Nx Q hop hR hN => ?_⟩
  have h1 := hx.relv hop (by simp [ho, Op.operands])
  obtain ⟨news, hn1, _, hsn⟩ := hRead_src hR hr h1 (tx := src) (fun _ => ⟨e, hs⟩) (fun ⟨s, h⟩ => by cases h)
  have hne := VRs_ints hn1
  subst hne
  have hcv : (convert src dst (a.eval x)).run P w = .ok (.string (strOfNums xs)) w := by
   obtain ⟨q, c', hq, _⟩ := VRsl h1
   rw [hq] at hsn ⊢
   cases q with
   | none =>
     have := run_convert_bytes_nil (P := P) w src e hs he n c' dst hd
     rw [this]
     have hc := hsn.cells
     simp [Builtin.firstCells] at hc
     subst hc
     rfl
   | some z =>
     rw [run_convert_bytes_string w src dst e _ n c' hs he hd, run_bytesToString w _ n c' xs (by have := hsn.cells; simpa [Builtin.firstCells, lenV] using this), foldl_push_bytes]
     simp [strOfNums, ByteArray.empty, ByteArray.emptyWithCapacity]
     rfl
  exact wp_of_run (v := .string (strOfNums xs)) (by simp [execOp, ho, hcv]) (hN _ w hR ⟨rfl, rfl, rfl, Nat.le_refl _, fun _ _ _ => rfl⟩ (.str _))
 ·cases h
theorem spec_field {t : TypeId} {x : Operand} {f n : Nat} {agg : Bool} {fields : Array Field} {fd : Field} {g : TypeInfo} {u : TypeDesc} {va v : Value} {cs : List Value} (ho : o.op = .field t x f) (hd : P.underlying t = some (.struct fields)) (hf : fields[f]? = some fd)
 (hg : P.info? fd.type = some g) (hu : P.underlying fd.type = some u) (hag : isAggD u = agg) (hx : Ev X st x (.val va)) (hn : aggN n va = some cs)
 (h : loadP agg g.size cs fd.offset = some v) : OpSpec P X o st (.val v) st.loc st.hp .P := by
 refine specV fun ι ρ a w hr => ?_
 have h1 := hx.relv hr (by simp [ho, Op.operands])
 unfold aggN at hn
 split at hn
 ·rename_i A
  split at hn
  ·cases hn
   generalize hq : a.eval x = q at *
   cases h1 with
   | @agg _ A' hz hc hone =>
     have hia := run_isAgg' hu hag w
     cases agg with
     | false =>
       simp only [loadP] at h
       have h' : A[fd.offset]? = some v := by simpa using h
       have hi : fd.offset < A'.size := by rw [<- hz]; exact (Array.getElem?_eq_some_iff.1 h').1
       refine ⟨A'[fd.offset], ?_, hc _ _ _ h' (Array.getElem?_eq_getElem hi)⟩
       simp [execOp, ho, hq, Instr.field, run_underlying hd, hf, asAgg, part, hia, Array.getElem?_eq_getElem hi]
     | true =>
       simp only [loadP] at h
       cases hcut : cut A.toList fd.offset g.size with
       | none => rw [hcut] at h; cases h
       | some c =>
         rw [hcut] at h; cases h
         unfold cut at hcut
         split at hcut
         ·rename_i hle
          cases hcut
          refine ⟨.agg (A'.extract fd.offset (fd.offset + g.size)), by simp [execOp, ho, hq, Instr.field, run_underlying hd, hf, asAgg, part, hia, sizeOf, typeInfo, hg], ?_⟩
          simp at hle
          have hget : ∀ (i : Nat) (v : Value), (List.take g.size (List.drop fd.offset A.toList)).toArray[i]? = some v -> i < g.size /\ A[fd.offset + i]? = some v := by
           intro i v e
           have e' : (List.take g.size (List.drop fd.offset A.toList))[i]? = some v := by simpa using e
           have hi : i < g.size := by have := (List.getElem?_eq_some_iff.1 e').1; simp at this; omega
           rw [List.getElem?_take_of_lt hi, List.getElem?_drop] at e'
           exact ⟨hi, by simpa using e'⟩
          refine .agg (by simp; omega) (fun i v v' e e' => ?_) (fun i v e => hone _ _ (hget i v e).2)
          obtain ⟨hi, e2⟩ := hget i v e
          refine hc _ _ _ e2 ?_
          rw [Array.getElem?_extract] at e'
          split at e'
          ·exact e'
          ·cases e'
         ·cases hcut
  ·cases hn
 ·cases hn
variable {R : Type} {A : Ann} {K : EV -> List (Nat × List Value) -> Heap -> Cls -> Option R} {r : R}
theorem bind_some' {α β : Type} {x : Option α} {f : α -> Option β} {b : β} (h : x.bind f = some b) : ∃ a, x = some a /\ f a = some b := by
 cases x with
 | none => cases h
 | some a => exact ⟨a, rfl, h⟩
theorem struct_field {ti : TI} {fs : List (Nat × Nat × Bool)} {t : TypeId} {f off n : Nat} {agg : Bool} (ht : TIok P t ti) (hk : ti.k = .struct fs) (hf : fs[f]? = some (off, n, agg)) :
 ∃ (fields : Array Field) (fd : Field) (g : TypeInfo) (u : TypeDesc), P.underlying t = some (.struct fields) /\ fields[f]? = some fd /\ fd.offset = off /\ P.info? fd.type = some g /\ g.size = n /\ 0 < g.size /\ P.underlying fd.type = some u /\ isAggD u = agg := by
 obtain ⟨d, hd, _, hkk⟩ := ht.und
 rw [hk] at hkk
 obtain ⟨fields, rfl, _, h⟩ := hkk
 obtain ⟨fd, g, u, h1, h2, h3, h4, h5, h6, h7, _⟩ := h f off n agg hf
 exact ⟨fields, fd, g, u, hd, h1, h2, h3, h4, by omega, h6, h7⟩
theorem slice_ty {ti : TI} {t e : TypeId} {esz eb : Nat} {z : List Value} (ht : TIok P t ti) (hk : ti.k = .slice e esz eb z) : ∃ g, P.underlying t = some (.slice e) /\ P.info? e = some g /\ g.size = esz := by
 obtain ⟨d, hd, _, hkk⟩ := ht.und
 rw [hk] at hkk
 obtain ⟨rfl, i, v, hi, hsz, _⟩ := hkk
 exact ⟨i, hd, hi, hsz⟩
theorem str_ty {ti : TI} {t : TypeId} (ht : TIok P t ti) (hk : ti.k = .str) : P.underlying t = some .string := by
 obtain ⟨d, hd, _, hkk⟩ := ht.und
 rw [hk] at hkk; rw [hd, hkk]
theorem int_ty {ti : TI} {t : TypeId} {k : IntKind} (ht : TIok P t ti) (hk : ti.k = .int k) : P.underlying t = some (.int k) := by
 obtain ⟨d, hd, _, hkk⟩ := ht.und
 rw [hk] at hkk; rw [hd, hkk]
end
end Go.AM

/- Arrays of elements of one cell: built, indexed, sliced through a pointer. -/
namespace Go.AM
set_option linter.unusedSimpArgs false
set_option linter.unusedVariables false
section
variable {P : Program} {X : Ctx} {o : Oper} {st : St}
theorem spec_buildA {t : TypeId} {parts : Array (Nat × Operand)} {ti : TI} {n esz : Nat} {cells' : List Value} (ho : o.op = .build t parts) (ht : TIok P t ti) (hk : ti.k = .arr n esz)
 (hp : Parts X st (arrP n esz) parts.toList ti.zero cells') : OpSpec P X o st (.val (.agg cells'.toArray)) st.loc st.hp .P := by
 refine specV fun ι ρ a w hr => ?_
 obtain ⟨i, v, hi, hsz, hz, hzc, hzl, hzp⟩ := ht.info
 obtain ⟨d, hd, hag, hkk⟩ := ht.und
 rw [hk] at hkk
 obtain ⟨e, g, rfl, hg, hgs, u, hu, hua⟩ := hkk
 have hzr : VRs ι ti.zero v.cells.toList := by rw [hzc]; exact VRs_pure hzp
 obtain ⟨cs', hfill, hv, h1⟩ := fill_run hr (place' := fun i => some (i * g.size, g.size)) (fun j off m agg q => by
  unfold arrP at q
  split at q
  ·rename_i hc; cases q; rw [hgs, hc.1, Nat.mul_one]; exact ⟨rfl, fun _ => rfl⟩
  ·cases q) hp (fun p hp => by simp [ho, Op.operands]; exact ⟨p.1, by simpa using hp⟩) v.cells hzr (fun u hu => pureV1_one (hzp u hu))
 have hb : P.built t (parts.map fun (i, x) => (i, a.eval x)).toList = some cs' := by
  simp only [Program.built, hi, hd, hz, hg]
  rw [<- hfill]
  congr 1
  simp
 refine ⟨.agg cs', by simp [execOp, ho, run_build w t _ cs' hb], ?_⟩
 refine .agg (by simpa using hv.length) (fun j u u' e e' => ?_) (fun j u e => h1 u (List.mem_of_getElem? (by simpa using e)))
 obtain ⟨q, hq, hr'⟩ := hv.get (i := j) (v := u) (by simpa using e)
 have : cs'[j]? = some q := by simpa using hq
 rw [this] at e'; cases e'; exact hr'
theorem spec_vIndexR {t : TypeId} {x i : Operand} {n esz : Nat} {e : TypeId} {g : TypeInfo} {u : TypeDesc} {va vi v : Value} (ho : o.op = .index t x i) (hd : P.underlying t = some (.array n e)) (hg : P.info? e = some g) (hgs : g.size = esz)
 (hu : P.underlying e = some u) (hua : esz = 1 -> isAggD u = false) (hx : Ev X st x (.val va)) (hi : Ev X st i (.val vi)) (h : vIndexR n esz va vi = some v) : OpSpec P X o st (.val v) st.loc st.hp .P := by
 refine specV fun ι ρ a w hr => ?_
 have h1 := hx.relv hr (by simp [ho, Op.operands])
 have h2 := hi.relv hr (by simp [ho, Op.operands])
 unfold vIndexR at h
 split at h
 ·rename_i cs k j
  split at h
  ·rename_i hc
   obtain ⟨he, hj0, hjn⟩ := hc
   generalize hq : a.eval x = q at *
   generalize hq' : a.eval i = q' at *
   cases h2
   cases h1 with
   | @agg _ A' hz hc hone =>
     have hia := run_isAgg' hu (hua he) w
     have hi' : j.toNat < A'.size := by rw [<- hz]; exact (Array.getElem?_eq_some_iff.1 h).1
     have hs : g.size = 1 := by rw [hgs, he]
     refine ⟨A'[j.toNat], ?_, hc _ _ _ h (Array.getElem?_eq_getElem hi')⟩
     simp [execOp, ho, hq, hq', Instr.index, run_underlying hd, asIntOf, hj0, hjn, sizeOf, typeInfo, hg, hs, part, hia, Array.getElem?_eq_getElem hi']
  ·cases h
 ·cases h
theorem spec_sliceA {t e : TypeId} {x : Operand} {n esz : Nat} {g : TypeInfo} {va v : Value} (ho : o.op = .slice t x none none none) (hd : P.underlying t = some (.array n e)) (hg : P.info? e = some g) (hgs : g.size = esz)
 (hx : Ev X st x (.val va)) (h : vSliceA st.hp n esz va = some v) : OpSpec P X o st (.val v) st.loc st.hp .H := by
 refine ⟨rfl, rfl, v, rfl, fun ι ρ a w B Nx Q hr hR hN => ?_⟩
 have h1 := hx.relv hr (by simp [ho, Op.operands])
 unfold vSliceA at h
 split at h
 ·rename_i b off
  cases e : blkAt st.hp b with
  | none => rw [e] at h; cases h
  | some k =>
    rw [e] at h
    simp only [Option.bind_some] at h
    split at h
    ·rename_i hc
     obtain ⟨hn, rfl, hks, hlen⟩ := hc
     cases h
     generalize hq : a.eval x = q at *
     cases h1 with
     | @ptr _ _ y hy =>
       obtain ⟨cs, el, fr, hb, hz, hlen', hcr, _⟩ := hR.ok _ _ _ hy e
       have hys : y.sz = 1 := by rw [<- hR.szs _ _ _ hy (blkAt_some e).1]; exact hks
       refine wp_of_run (v := .slice (some ⟨y.blk, y.off + off, none⟩) n n) ?_ (hN _ w hR ⟨rfl, rfl, rfl, Nat.le_refl _, fun _ _ _ => rfl⟩ (.slc hy hn (Nat.le_refl _) (fun _ => rfl) (by rw [hys]; omega)))
       have hnz : ¬ n = 0 := by omega
       simp [execOp, ho, Instr.sliceAt, Instr.sureAddr, run_underlying hd, hq, asAddr, hgs, Instr.sliceBounds, sizeOf, typeInfo, hg, hnz, add_plain]
    ·cases h
 ·cases h
end
end Go.AM

/- Every operation of the abstract machine stands for what the world does. -/
namespace Go.AM
set_option linter.unusedSimpArgs false
set_option linter.unusedVariables false
section
variable {P : Program} {X : Ctx} {A : Ann} {R : Type} {K : EV -> List (Nat × List Value) -> Heap -> Cls -> Option R} {r : R} {o : Oper} {st : St}
set_option maxHeartbeats 1000000 in
theorem opK_sound (hX : XOk P X) (h : opK X A o st K = some r) : ∃ e loc' hp' c, K e loc' hp' c = some r /\ OpSpec P X o st e loc' hp' c := by
 unfold opK at h
 cases hop : o.op with
 | move x =>
   simp only [hop] at h
   obtain ⟨e, he, h⟩ := evK_ev h
   exact ⟨_, _, _, _, h, spec_move (.inl hop) he⟩
 | assign x =>
   simp only [hop] at h
   obtain ⟨e, he, h⟩ := evK_ev h
   exact ⟨_, _, _, _, h, spec_move (.inr hop) he⟩
 | pick c x y =>
   simp only [hop] at h
   obtain ⟨vc, hc, h⟩ := vaK_ev h
   obtain ⟨ex, hx, h⟩ := evK_ev h
   obtain ⟨ey, hy, h⟩ := evK_ev h
   split at h
   ·obtain ⟨v, hv, h⟩ := bind_some' h
    refine ⟨_, _, _, _, h, spec_pick hop hc hx hy ?_⟩
    unfold vPick at hv
    split at hv
    ·cases hv; exact .inl ⟨rfl, rfl⟩
    ·cases hv; exact .inr ⟨rfl, rfl⟩
    ·cases hv
   ·unfold ifV at h
    split at h
    ·cases h
    ·exact ⟨_, _, _, _, h, spec_pick hop hc hx hy (.inr ⟨rfl, rfl⟩)⟩
    ·cases h
   ·unfold ifV at h
    split at h
    ·exact ⟨_, _, _, _, h, spec_pick hop hc hx hy (.inl ⟨rfl, rfl⟩)⟩
    ·cases h
    ·cases h
   ·cases h
 | alloc elem =>
   simp only [hop] at h
   split at h
   ·rename_i ti d ht hd
    split at h
    ·split at h
     ·rename_i hl
      exact ⟨_, _, _, _, h, spec_allocL hop hd (hX.tab _ _ ht) hl⟩
     ·cases h
    ·exact ⟨_, _, _, _, h, spec_allocA hop (hX.tab _ _ ht)⟩
   ·cases h
 | box elem x =>
   simp only [hop] at h
   split at h
   ·rename_i ti d ht hd
    obtain ⟨v, hv, h⟩ := vaK_ev h
    obtain ⟨cs, hcs, h⟩ := cellsK_ev h
    split at h
    ·split at h
     ·rename_i hl
      exact ⟨_, _, _, _, h, spec_boxL hop hd hv hcs hl⟩
     ·cases h
    ·exact ⟨_, _, _, _, h, spec_boxA hop hv hcs⟩
   ·cases h
 | build t parts =>
   simp only [hop] at h
   split at h
   ·rename_i fs z _ _ ht
    obtain ⟨cells', hp, h⟩ := partsK_ev h
    exact ⟨_, _, _, _, h, spec_build hop (hX.tab _ _ ht) rfl hp⟩
   ·rename_i n esz z _ _ ht
    obtain ⟨cells', hp, h⟩ := partsK_ev h
    exact ⟨_, _, _, _, h, spec_buildA hop (hX.tab _ _ ht) rfl hp⟩
   ·cases h
 | buildSlice t len parts =>
   simp only [hop] at h
   split at h
   ·rename_i e esz eb z _ _ _ ht
    split at h
    ·rename_i te hte
     split at h
     ·rename_i hb
      obtain ⟨cells', hp, h⟩ := partsK_ev h
      exact ⟨_, _, _, _, h, spec_buildSlice hop (hX.tab _ _ ht) rfl (hX.tab _ _ hte) (Nat.le_of_ble_eq_true hb) hp⟩
     ·cases h
    ·cases h
   ·cases h
 | load t x =>
   simp only [hop] at h
   split at h
   ·rename_i ti ht
    obtain ⟨e, he, h⟩ := evK_ev h
    split at h
    ·rename_i k off
     split at h
     ·rename_i cs hk
      split at h
      ·rename_i hag
       obtain ⟨c, hc, h⟩ := bind_some' h
       exact ⟨_, _, _, _, h, spec_loadL hop (hX.tab _ _ ht) he hk (by simp [loadP, hag, hc])⟩
      ·rename_i hag
       obtain ⟨v, hv, h⟩ := bind_some' h
       exact ⟨_, _, _, _, h, spec_loadL hop (hX.tab _ _ ht) he hk (by simp [loadP, hag, hv])⟩
     ·cases h
    ·obtain ⟨v, hv, h⟩ := bind_some' h
     exact ⟨_, _, _, _, h, spec_loadH hop (hX.tab _ _ ht) he hv⟩
    ·cases h
   ·cases h
 | store t x y =>
   simp only [hop] at h
   split at h
   ·rename_i ti ht
    obtain ⟨e, he, h⟩ := evK_ev h
    obtain ⟨v, hv, h⟩ := vaK_ev h
    obtain ⟨cs, hcs, h⟩ := cellsK_ev h
    split at h
    ·rename_i k off
     split at h
     ·rename_i old hk
      split at h
      ·rename_i hb
       exact ⟨_, _, _, _, h, spec_storeL hop (hX.tab _ _ ht) he hv hk hcs (Nat.le_of_ble_eq_true hb)⟩
      ·cases h
     ·cases h
    ·obtain ⟨hp', hh, h⟩ := bind_some' h
     exact ⟨_, _, _, _, h, spec_storeH hop (hX.tab _ _ ht) he hv hcs hh⟩
    ·cases h
   ·cases h
 | nilCheck x =>
   simp only [hop] at h
   obtain ⟨e, he, h⟩ := evK_ev h
   split at h
   ·exact ⟨_, _, _, _, h, spec_nilLoc hop he⟩
   ·obtain ⟨v, hv, h⟩ := bind_some' h
    exact ⟨_, _, _, _, h, spec_nilCheck hop he hv⟩
   ·cases h
 | binOp op t x y yt =>
   simp only [hop] at h
   split at h
   ·rename_i ti ht
    obtain ⟨a, ha, h⟩ := vaK_ev h
    obtain ⟨b, hb, h⟩ := vaK_ev h
    obtain ⟨v, hv, h⟩ := bind_some' h
    exact ⟨_, _, _, _, h, spec_binOp hop (hX.tab _ _ ht) ha hb hv⟩
   ·cases h
 | unOp op t x =>
   simp only [hop] at h
   obtain ⟨a, ha, h⟩ := vaK_ev h
   obtain ⟨v, hv, h⟩ := bind_some' h
   exact ⟨_, _, _, _, h, spec_unOp hop ha hv⟩
 | convert src dst x =>
   simp only [hop] at h
   split at h
   ·rename_i ts td hts htd
    obtain ⟨va, ha, h⟩ := vaK_ev h
    split at h
    ·rename_i k k' hk hk'
     obtain ⟨v, hv, h⟩ := bind_some' h
     exact ⟨_, _, _, _, h, spec_convI hop (int_ty (hX.tab _ _ hts) hk') (int_ty (hX.tab _ _ htd) hk) ha hv⟩
    ·rename_i hk hk'
     obtain ⟨v, hv, h⟩ := bind_some' h
     exact ⟨_, _, _, _, h, spec_convS hop (str_ty (hX.tab _ _ hts) hk') (str_ty (hX.tab _ _ htd) hk) ha hv⟩
    ·rename_i hk hk'
     split at h
     ·rename_i e _ _ _ s hk2
      split at h
      ·rename_i hte
       obtain ⟨g, hd, _⟩ := slice_ty (hX.tab _ _ htd) hk2
       exact ⟨_, _, _, _, h, spec_S2B hop (str_ty (hX.tab _ _ hts) hk') hd (int_ty (hX.tab _ _ hte) rfl) ha⟩
      ·cases h
     ·cases h
    ·rename_i e _ _ _ hk hk'
     split at h
     ·rename_i hte
      obtain ⟨v, hv, h⟩ := bind_some' h
      obtain ⟨g, hd, _⟩ := slice_ty (hX.tab _ _ hts) hk'
      exact ⟨_, _, _, _, h, spec_B2S hop hd (str_ty (hX.tab _ _ htd) hk) (int_ty (hX.tab _ _ hte) rfl) ha hv⟩
     ·cases h
    ·cases h
   ·cases h
 | makeFunc fn first captured =>
   simp only [hop] at h
   split at h
   ·rename_i hz
    obtain ⟨vs, hvs, h⟩ := vasK_ev h
    exact ⟨_, _, _, _, h, spec_makeFunc hop hz hvs⟩
   ·cases h
 | makeSlice t l c =>
   simp only [hop] at h
   split at h
   ·rename_i e esz eb z _ _ _ ht
    obtain ⟨vl, hl, h⟩ := vaK_ev h
    obtain ⟨vc, hc, h⟩ := vaK_ev h
    obtain ⟨n, hn, h⟩ := bind_some' h
    exact ⟨_, _, _, _, h, spec_makeSlice hop (hX.tab _ _ ht) rfl hl hc hn⟩
   ·cases h
 | slice t x lo hi mx =>
   simp only [hop] at h
   split at h
   ·rename_i ht
    obtain ⟨v, hv, h⟩ := vaK_ev h
    obtain ⟨l, hl, h⟩ := voK_ev h
    obtain ⟨k, hk, h⟩ := voK_ev h
    split at h
    ·obtain ⟨u, hu, h⟩ := bind_some' h
     exact ⟨_, _, _, _, h, spec_sliceS hop (str_ty (hX.tab _ _ ht) rfl) hv hl hk hu⟩
    ·cases h
   ·rename_i e esz eb z _ _ _ ht
    obtain ⟨v, hv, h⟩ := vaK_ev h
    obtain ⟨l, hl, h⟩ := voK_ev h
    obtain ⟨k, hk, h⟩ := voK_ev h
    obtain ⟨m, hm, h⟩ := voK_ev h
    obtain ⟨g, hd, hg, hgs⟩ := slice_ty (hX.tab _ _ ht) rfl
    subst hgs
    obtain ⟨u, hu, h⟩ := bind_some' h
    exact ⟨_, _, _, _, h, spec_sliceV hop hd hg hv hl hk hm hu⟩
   ·rename_i n esz _ _ _ ht
    split at h
    ·obtain ⟨v, hv, h⟩ := vaK_ev h
     obtain ⟨d, hd, _, e, g, rfl, hg, hgs, _⟩ := (hX.tab _ _ ht).und
     obtain ⟨u, hu, h⟩ := bind_some' h
     exact ⟨_, _, _, _, h, spec_sliceA hop hd hg hgs hv hu⟩
    ·cases h
   ·cases h
 | fieldAddr t x f =>
   simp only [hop] at h
   split at h
   ·rename_i fs _ _ _ ht
    split at h
    ·rename_i off n agg hf
     obtain ⟨fields, fd, g, u, h1, h2, rfl, h4, h5, h6, _⟩ := struct_field (hX.tab _ _ ht) rfl hf
     obtain ⟨e, he, h⟩ := evK_ev h
     split at h
     ·exact ⟨_, _, _, _, h, spec_locOff hop h1 h2 h4 h6 he⟩
     ·obtain ⟨v, hv, h⟩ := bind_some' h
      exact ⟨_, _, _, _, h, spec_vOff hop h1 h2 h4 h6 he hv⟩
     ·cases h
    ·cases h
   ·cases h
 | field t x f =>
   simp only [hop] at h
   split at h
   ·rename_i fs n _ _ ht
    split at h
    ·rename_i off m agg hf
     obtain ⟨fields, fd, g, u, h1, h2, rfl, h4, rfl, h6, h7, h8⟩ := struct_field (hX.tab _ _ ht) rfl hf
     obtain ⟨v, hv, h⟩ := vaK_ev h
     obtain ⟨cs, hcs, h⟩ := bind_some' h
     split at h
     ·obtain ⟨c, hc, h⟩ := bind_some' h
      exact ⟨_, _, _, _, h, spec_field hop h1 h2 h4 h7 h8 hv hcs (by simp [loadP, hc])⟩
     ·obtain ⟨c, hc, h⟩ := bind_some' h
      exact ⟨_, _, _, _, h, spec_field hop h1 h2 h4 h7 h8 hv hcs (by simp [loadP, hc])⟩
    ·cases h
   ·cases h
 | indexAddr t x i =>
   simp only [hop] at h
   split at h
   ·rename_i e esz eb z _ _ _ ht
    obtain ⟨v, hv, h⟩ := vaK_ev h
    obtain ⟨j, hj, h⟩ := vaK_ev h
    obtain ⟨g, hd, hg, hgs⟩ := slice_ty (hX.tab _ _ ht) rfl
    subst hgs
    obtain ⟨u, hu, h⟩ := bind_some' h
    exact ⟨_, _, _, _, h, spec_vIdx hop hd hg hv hj hu⟩
   ·rename_i n esz _ _ _ ht
    obtain ⟨v, hv, h⟩ := vaK_ev h
    obtain ⟨j, hj, h⟩ := vaK_ev h
    obtain ⟨d, hd, _, e, g, rfl, hg, hgs, _⟩ := (hX.tab _ _ ht).und
    subst hgs
    obtain ⟨u, hu, h⟩ := bind_some' h
    exact ⟨_, _, _, _, h, spec_vIdxA hop hd hg hv hj hu⟩
   ·cases h
 | index t x i =>
   simp only [hop] at h
   split at h
   ·rename_i ht
    obtain ⟨v, hv, h⟩ := vaK_ev h
    obtain ⟨j, hj, h⟩ := vaK_ev h
    obtain ⟨u, hu, h⟩ := bind_some' h
    exact ⟨_, _, _, _, h, spec_vIndexS hop (str_ty (hX.tab _ _ ht) rfl) hv hj hu⟩
   ·rename_i n esz _ _ _ ht
    obtain ⟨v, hv, h⟩ := vaK_ev h
    obtain ⟨j, hj, h⟩ := vaK_ev h
    obtain ⟨d, hd, _, e, g, rfl, hg, hgs, ud, hud, hua⟩ := (hX.tab _ _ ht).und
    obtain ⟨u, hu, h⟩ := bind_some' h
    exact ⟨_, _, _, _, h, spec_vIndexR hop hd hg hgs hud hua hv hj hu⟩
   ·cases h
 | extract x i =>
   simp only [hop] at h
   obtain ⟨v, hv, h⟩ := vaK_ev h
   obtain ⟨u, hu, h⟩ := bind_some' h
   exact ⟨_, _, _, _, h, spec_extract hop hv hu⟩
 | call c =>
   simp only [hop] at h
   split at h
   ·rename_i hcal
    split at h
    ·rename_i x t hargs htys
     split at h
     ·rename_i ht
      obtain ⟨v, hv, h⟩ := vaK_ev h
      obtain ⟨u, hu, h⟩ := bind_some' h
      exact ⟨_, _, _, _, h, spec_lenS hop hcal hargs htys (str_ty (hX.tab _ _ ht) rfl) hv hu⟩
     ·rename_i ht
      obtain ⟨v, hv, h⟩ := vaK_ev h
      obtain ⟨u, hu, h⟩ := bind_some' h
      obtain ⟨g, hd, _⟩ := slice_ty (hX.tab _ _ ht) rfl
      exact ⟨_, _, _, _, h, spec_lenV hop hcal hargs htys hd hv hu⟩
     ·cases h
    ·cases h
   ·rename_i hcal
    split at h
    ·rename_i x y hargs
     obtain ⟨v, hv, h⟩ := vaK_ev h
     obtain ⟨u, hu, h⟩ := vaK_ev h
     obtain ⟨m, hm, h⟩ := bind_some' h
     exact ⟨_, _, _, _, h, spec_min hop hcal hargs hv hu hm⟩
    ·cases h
   ·rename_i hcal
    split at h
    ·rename_i x y t u d hargs htys hdst
     split at h
     ·rename_i ht hu
      obtain ⟨s, hs, h⟩ := vaK_ev h
      obtain ⟨v, hv, h⟩ := vaK_ev h
      obtain ⟨v', hv', h⟩ := bind_some' h
      obtain ⟨g, hd, _⟩ := slice_ty (hX.tab _ _ hu) rfl
      have hsv : v' = v /\ SrcTy P u v := by
       unfold vSl at hv'
       split at hv'
       ·cases hv'; exact ⟨rfl, And.intro (fun _ => ⟨_, hd⟩) (fun ⟨s, h⟩ => by cases h)⟩
       ·cases hv'
      have hst := hsv.2
      have hsv1 := hsv.1
      rw [hsv1] at h
      split at h
      ·obtain ⟨q, hq, h⟩ := bind_some' h
       exact ⟨_, _, _, _, h, spec_appFull hop hcal hargs htys (hX.tab _ _ ht) rfl hst hs hv hq⟩
      ·obtain ⟨q, hq, h⟩ := bind_some' h
       exact ⟨_, _, _, _, h, spec_app hop hcal hargs htys (hX.tab _ _ ht) rfl hst hs hv hq⟩
     ·rename_i ht hu
      obtain ⟨s, hs, h⟩ := vaK_ev h
      obtain ⟨v, hv, h⟩ := vaK_ev h
      obtain ⟨v', hv', h⟩ := bind_some' h
      have hd := str_ty (hX.tab _ _ hu) rfl
      have hsv : v' = v /\ SrcTy P u v := by
       unfold vStr at hv'
       split at hv'
       ·cases hv'; exact ⟨rfl, And.intro (fun ⟨a, n, c, h⟩ => by cases h) (fun _ => hd)⟩
       ·cases hv'
      have hst := hsv.2
      have hsv1 := hsv.1
      rw [hsv1] at h
      split at h
      ·obtain ⟨q, hq, h⟩ := bind_some' h
       exact ⟨_, _, _, _, h, spec_appFull hop hcal hargs htys (hX.tab _ _ ht) rfl hst hs hv hq⟩
      ·obtain ⟨q, hq, h⟩ := bind_some' h
       exact ⟨_, _, _, _, h, spec_app hop hcal hargs htys (hX.tab _ _ ht) rfl hst hs hv hq⟩
     ·cases h
    ·cases h
   ·rename_i f hcal
    obtain ⟨vs, hvs, h⟩ := vasK_ev h
    split at h
    ·obtain ⟨q, hq, h⟩ := bind_some' h
     exact ⟨_, _, _, _, h, spec_callW (caps := []) hX hop hcal (.func f) hvs (by simpa using hq)⟩
    ·obtain ⟨q, hq, h⟩ := bind_some' h
     exact ⟨_, _, _, _, h, spec_callQ (caps := []) hX hop hcal (.func f) hvs (by simpa using hq)⟩
    ·obtain ⟨q, hq, h⟩ := bind_some' h
     exact ⟨_, _, _, _, h, spec_callA (caps := []) hX hop hcal (.func f) hvs (by simpa using hq)⟩
    ·rename_i n hk
     obtain ⟨q, hq, h⟩ := bind_some' h
     exact ⟨_, _, _, _, h, spec_ext hX hop hcal hvs hk hq⟩
   ·rename_i fv _ hcal
    obtain ⟨f, hf, h⟩ := vaK_ev h
    obtain ⟨vs, hvs, h⟩ := vasK_ev h
    obtain ⟨p, hp, h⟩ := bind_some' h
    have hp' : f = .func (.func p.1) #[] p.2.toArray := by
     unfold callee at hp
     split at hp
     ·split at hp
      ·rename_i hz
       cases hp
       rw [Array.eq_empty_of_size_eq_zero hz]
      ·cases hp
     ·cases hp
    rw [hp'] at hf
    split at h
    ·obtain ⟨q, hq, h⟩ := bind_some' h
     exact ⟨_, _, _, _, h, spec_callQ hX hop hcal hf hvs hq⟩
    ·obtain ⟨q, hq, h⟩ := bind_some' h
     exact ⟨_, _, _, _, h, spec_callW hX hop hcal hf hvs hq⟩
   ·cases h
 | _ => simp only [hop] at h; cases h
end
end Go.AM

/- A row of operations in the order of the text. -/
namespace Go.AM
set_option linter.unusedSimpArgs false
set_option linter.unusedVariables false
def upd (ρ : Nat -> Nat) (k v : Nat) : Nat -> Nat := fun j => if j = k then v else ρ j
structure Entry where
 ι : Inj
 hp : Heap
 w : World
 B : Nat
structure Cum (E : Entry) (ι : Inj) (hp : Heap) (w : World) : Prop where
 ext : ExtN E.hp.length E.ι ι
 sz : SzKeep E.hp hp
 fr : Fr E.ι E.hp E.w w
 own : Own E.ι E.hp E.w ι hp
structure SRel (X : Ctx) (E : Entry) (ι : Inj) (ρ : Nat -> Nat) (st : St) (a : Act) (w : World) : Prop where
 env : ∀ t e, look st.env t = some e -> ER ι ρ e (a.eval (.tmp t))
 envl : ∀ t k d, look st.env t = some (.loc k d) -> (look st.loc k).isSome = true
 loc : ∀ k cells, look st.loc k = some cells -> LocR ι cells w (ρ k) /\ E.w.heap.size <= ρ k
 ldist : ∀ k k' c c', look st.loc k = some c -> look st.loc k' = some c' -> ρ k = ρ k' -> k = k'
 lsep : ∀ k c b x q, look st.loc k = some c -> ι b = some x -> blkAt st.hp b = some q -> x.blk ≠ ρ k
 rel : Rel X.ng ι st.hp w E.B
 cum : Cum E ι st.hp w
 defers : a.defers = []
theorem Fr.refl (ι : Inj) (hp : Heap) (w : World) : Fr ι hp w w := ⟨rfl, rfl, rfl, Nat.le_refl _, fun _ _ _ => rfl⟩
theorem SzKeep.trans {a b c : Heap} (h : SzKeep a b) (k : SzKeep b c) : SzKeep a c := by
 intro i q hq
 obtain ⟨q1, h1, h2⟩ := h i q hq
 obtain ⟨q2, h3, h4⟩ := k i q1 h1
 exact ⟨q2, h3, by rw [h4, h2]⟩
theorem SzKeep.len {a b : Heap} (h : SzKeep a b) : a.length <= b.length := by
 rcases Nat.lt_or_ge b.length a.length with hl | hl
 ·obtain ⟨q, hq, _⟩ := h b.length a[b.length] (List.getElem?_eq_getElem hl)
  have := (List.getElem?_eq_some_iff.1 hq).1; omega
 ·exact hl
theorem Cum.next {E : Entry} {ι ι' : Inj} {hp hp' : Heap} {w w' : World} (h : Cum E ι hp w) (h1 : ExtN hp.length ι ι') (h2 : SzKeep hp hp') (h3 : Fr ι hp w w') (h4 : Own ι hp w ι' hp') : Cum E ι' hp' w' := by
 refine ⟨fun b hb => ?_, h.sz.trans h2, ⟨h3.os.trans h.fr.os, h3.tape.trans h.fr.tape, h3.output.trans h.fr.output, Nat.le_trans h.fr.size h3.size, fun j hj hno => ?_⟩, ?_⟩
 ·rw [h1 b (Nat.lt_of_lt_of_le hb h.sz.len), h.ext b hb]
 ·rw [<- h.fr.block j hj hno]
  refine h3.block j (Nat.lt_of_lt_of_le hj h.fr.size) fun b x k hb hk hrw he => ?_
  obtain ⟨b0, x0, k0, g1, g2, _, g3, g4⟩ := h.own b x k hb hk (by omega)
  exact hno b0 x0 k0 g1 g2 (g3 hrw) (by omega)
 ·intro b x k hb hk hx
  obtain ⟨b1, x1, k1, g1, g2, g5, g3, g4⟩ := h4 b x k hb hk (Nat.lt_of_lt_of_le hx h.fr.size)
  obtain ⟨b0, x0, k0, f1, f2, f5, f3, f4⟩ := h.own b1 x1 k1 g1 g2 (by omega)
  refine ⟨b0, x0, k0, f1, f2, ?_, fun hrw => f3 (g3 hrw), by omega⟩
  rcases g5 with rfl | g5
  ·exact f5
  ·exact .inr (f3 g5)
theorem ExtN.sub {ng n : Nat} {ι ι' : Inj} {hp : Heap} {w : World} {B : Nat} (h : ExtN hp.length ι ι') (hR : Rel ng ι hp w B) : Sub ι ι' := fun b x hb => by rw [h b (hR.dom _ _ hb)]; exact hb
theorem eval_put (a : Act) (dst : Option Tmp) (v : Value) (t : Tmp) (hd : ∀ d, dst = some d -> d < a.tmps.size) : (a.put dst v).eval (.tmp t) = if dst = some t then v else a.eval (.tmp t) := by
 cases dst with
 | none => simp [Act.put]
 | some d =>
   have := hd d rfl
   simp only [Act.put, Act.eval, Array.getD_eq_getD_getElem?, Array.getElem?_setIfInBounds]
   by_cases h : d = t
   ·subst h; simp [this]
   ·simp [h]
theorem putE_look {env : List (Nat × EV)} {dst : Option Tmp} {e : EV} {t : Nat} : look (putE env dst e) t = if dst = some t then some e else look env t := by
 cases dst with
 | none => simp [putE]
 | some d =>
   simp only [putE, look_cons]
   by_cases h : t = d
   ·subst h; simp
   ·simp [h, Ne.symm h]
theorem LocR.mono {ι ι' : Inj} (hs : Sub ι ι') {cells : List Value} {w : World} {j : Nat} (h : LocR ι cells w j) : LocR ι' cells w j := by
 obtain ⟨cs, el, fr, h1, h2, h3, h4⟩ := h
 exact ⟨cs, el, fr, h1, h2, h3, h4.mono hs⟩
theorem LocR.keep {ι : Inj} {cells : List Value} {w w' : World} {j : Nat} (h : LocR ι cells w j) (he : w'.heap[j]? = w.heap[j]?) : LocR ι cells w' j := by
 obtain ⟨cs, el, fr, h1, h2, h3, h4⟩ := h
 exact ⟨cs, el, fr, by rw [he]; exact h1, h2, h3, h4⟩
theorem LocR.lt {ι : Inj} {cells : List Value} {w : World} {j : Nat} (h : LocR ι cells w j) : j < w.heap.size := by
 obtain ⟨cs, el, fr, h1, _⟩ := h
 exact (Array.getElem?_eq_some_iff.1 h1).1
theorem operR_of {X : Ctx} {E : Entry} {ι : Inj} {ρ : Nat -> Nat} {st : St} {a : Act} {w : World} (h : SRel X E ι ρ st a w) (o : Oper) : OperR X ι ρ st a o :=
 ⟨h.rel.glob, h.rel.szs, fun t e _ ht => h.env t e ht⟩
theorem Rel.keep {ng : Nat} {ι : Inj} {hp : Heap} {w w' : World} {B : Nat} (hR : Rel ng ι hp w B) (hs : w.heap.size <= w'.heap.size) (h : ∀ b x k, ι b = some x -> blkAt hp b = some k -> w'.heap[x.blk]? = w.heap[x.blk]?) : Rel ng ι hp w' B :=
 ⟨hR.glob, hR.szs, hR.dom, Nat.le_trans hR.base hs, fun b x k hb hk => by
  obtain ⟨cs, el, fr, m1, m2⟩ := hR.ok b x k hb hk
  exact ⟨cs, el, fr, by rw [h b x k hb hk]; exact m1, m2⟩, hR.sep⟩
section
variable {P : Program} {X : Ctx} {A : Ann} {E : Entry}
theorem step_heap {o : Oper} {st : St} {e : EV} {ι ι' : Inj} {ρ : Nat -> Nat} {a : Act} {w w' : World} {hp' : Heap} {v' : Value} (h : SRel X E ι ρ st a w) (hd : ∀ d, o.dst = some d -> d < a.tmps.size) (he : ∀ k d, e ≠ .loc k d)
 (h1 : ExtN st.hp.length ι ι') (h2 : SzKeep st.hp hp') (h3 : Rel X.ng ι' hp' w' E.B) (h4 : Fr ι st.hp w w') (h5 : Own ι st.hp w ι' hp') (h6 : ER ι' ρ e v') :
 SRel X E ι' ρ ⟨putE st.env o.dst e, st.loc, hp'⟩ (a.put o.dst v') w' := by
 have hsub : Sub ι ι' := fun b x hb => by rw [h1 b (h.rel.dom _ _ hb)]; exact hb
 refine ⟨fun t e' ht => ?_, fun t k d ht => ?_, fun k c hk => ?_, h.ldist, fun k c b x q hk hb hq => ?_, h3, h.cum.next h1 h2 h4 h5, by cases hdd : o.dst <;> simp [Act.put, h.defers]⟩
 ·rw [eval_put a o.dst v' t hd]
  simp only [putE_look] at ht
  split at ht
  ·cases ht; rw [if_pos (by assumption)]; exact h6
  ·rw [if_neg (by assumption)]; exact (h.env t e' ht).mono hsub
 ·simp only [putE_look] at ht
  split at ht
  ·cases ht; exact absurd rfl (he k d)
  ·exact h.envl t k d ht
 ·obtain ⟨g1, g2⟩ := h.loc k c hk
  exact ⟨(g1.mono hsub).keep (h4.block _ g1.lt fun b x q hb hq _ => h.lsep k c b x q hk hb hq), g2⟩
 ·intro hx
  have hlt := (h.loc k c hk).1.lt
  obtain ⟨b0, x0, k0, g1, g2, _, _, g4⟩ := h5 b x q hb hq (by omega)
  exact h.lsep k c b0 x0 k0 hk g1 g2 (by omega)
theorem op_step {o : Oper} {st : St} {e : EV} {loc' : List (Nat × List Value)} {hp' : Heap} {c : Cls} {ι : Inj} {ρ : Nat -> Nat} {a : Act} {w : World} (hs : OpSpec P X o st e loc' hp' c) (h : SRel X E ι ρ st a w)
 (hd : ∀ d, o.dst = some d -> d < a.tmps.size) {Nx : Act -> World -> Prop} {Q : Exit -> Act -> World -> Prop}
 (hN : ∀ ι' ρ' v' w', SRel X E ι' ρ' ⟨putE st.env o.dst e, loc', hp'⟩ (a.put o.dst v') w' -> Nx (a.put o.dst v') w') : o.wp P a w Nx Q := by
 have hop := operR_of h o
 cases c with
 | P =>
   obtain ⟨rfl, rfl, hl, hrun⟩ := hs
   obtain ⟨v', h1, h2⟩ := hrun ι ρ a w hop
   refine wp_of_run h1 (hN ι ρ v' w ⟨fun t e' ht => ?_, fun t k d ht => ?_, h.loc, h.ldist, h.lsep, h.rel, h.cum, by cases hdd : o.dst <;> simp [Act.put, h.defers]⟩)
   ·rw [eval_put a o.dst v' t hd]
    simp only [putE_look] at ht
    split at ht
    ·cases ht; rw [if_pos (by assumption)]; exact h2
    ·rw [if_neg (by assumption)]; exact h.env t e' ht
   ·simp only [putE_look] at ht
    split at ht
    ·cases ht
     obtain ⟨t', d', h', _⟩ := hl k d rfl
     exact h.envl _ _ _ h'
    ·exact h.envl t k d ht
 | L k =>
   obtain ⟨rfl, rfl, v, cells, rfl, hk, hrun⟩ := hs
   obtain ⟨v', h1, h2⟩ := hrun ι ρ a w hop (h.loc k cells hk).1
   exact wp_of_run h1 (hN ι ρ v' w (step_heap h hd (fun _ _ h => by cases h) (fun _ _ => rfl) (SzKeep.refl _) h.rel (Fr.refl _ _ _) (fun b x q hb hq _ => ⟨b, x, q, hb, hq, Or.inl rfl, id, rfl⟩) (.val h2)))
 | S k =>
   obtain ⟨rfl, rfl, old, cells, hk, rfl, hlen, hrun⟩ := hs
   obtain ⟨w', h1, h2, e1, e2, e3, e4, e5⟩ := hrun ι ρ a w hop (h.loc k old hk).1
   have hkn : E.w.heap.size <= ρ k := (h.loc k old hk).2
   have hl : ∀ k' c, look (setL st.loc k cells) k' = some c -> ∃ c0, look st.loc k' = some c0 /\ ((k' = k /\ c = cells) ∨ (k' ≠ k /\ c = c0)) := by
    intro k' c hc
    rw [look_setL] at hc
    split at hc
    ·rename_i e; subst e; rw [hk] at hc; cases hc; exact ⟨old, hk, .inl ⟨rfl, rfl⟩⟩
    ·rename_i e; exact ⟨c, hc, .inr ⟨e, rfl⟩⟩
   refine wp_of_skip h1 (hN ι ρ undef w' ⟨fun t e' ht => ?_, fun t k' d ht => ?_, fun k' c hc => ?_, fun k1 k2 c1 c2 g1 g2 => ?_, fun k' c b x q hc hb hq => ?_, h.rel.keep (by omega) fun b x q hb hq => e5 _ (h.lsep k old b x q hk hb hq), ?_, by cases hdd : o.dst <;> simp [Act.put, h.defers]⟩)
   ·rw [eval_put a o.dst undef t hd]
    simp only [putE_look] at ht
    split at ht
    ·cases ht; rw [if_pos (by assumption)]; exact .skp
    ·rw [if_neg (by assumption)]; exact h.env t e' ht
   ·simp only [putE_look] at ht
    split at ht
    ·cases ht
    ·have := h.envl t k' d ht
     rw [look_setL]
     split
     ·rename_i e; subst e; simp [hk]
     ·exact this
   ·obtain ⟨c0, g1, g2⟩ := hl k' c hc
    rcases g2 with ⟨rfl, rfl⟩ | ⟨hne, rfl⟩
    ·exact ⟨h2, hkn⟩
    ·obtain ⟨m1, m2⟩ := h.loc k' c g1
     exact ⟨m1.keep (e5 _ fun he => hne (h.ldist k' k c old g1 hk he)), m2⟩
   ·obtain ⟨c0, f1, _⟩ := hl k1 c1 g1
    obtain ⟨c0', f2, _⟩ := hl k2 c2 g2
    exact h.ldist k1 k2 c0 c0' f1 f2
   ·obtain ⟨c0, f1, _⟩ := hl k' c hc
    exact h.lsep k' c0 b x q f1 hb hq
   ·exact ⟨h.cum.ext, h.cum.sz, ⟨e1.trans h.cum.fr.os, e2.trans h.cum.fr.tape, e3.trans h.cum.fr.output, by have := h.cum.fr.size; omega, fun j hj hno => by rw [e5 j (by omega)]; exact h.cum.fr.block j hj hno⟩, h.cum.own⟩
 | N k =>
   obtain ⟨rfl, hdst, rfl, hk, cells, rfl, hrun⟩ := hs
   obtain ⟨obj, h1, h2⟩ := hrun ι ρ a w hop
   have hold : ∀ j, j < w.heap.size -> (w.alloc obj).heap[j]? = w.heap[j]? := fun j hj => by
    show (w.heap.push obj)[j]? = _
    rw [Array.getElem?_push, if_neg (by omega)]
   have hρ : ∀ k', k' ≠ k -> (upd ρ k w.heap.size) k' = ρ k' := fun k' hk' => if_neg hk'
   have hρk : (upd ρ k w.heap.size) k = w.heap.size := if_pos rfl
   have hblk : ∀ b x q, ι b = some x -> blkAt st.hp b = some q -> x.blk < w.heap.size := fun b x q hb hq => by
    obtain ⟨_, _, _, e, _⟩ := h.rel.ok b x q hb hq
    exact (Array.getElem?_eq_some_iff.1 e).1
   have hl : ∀ k' c, look ((k, cells) :: st.loc) k' = some c -> (k' = k /\ c = cells) ∨ (k' ≠ k /\ look st.loc k' = some c) := by
    intro k' c hc
    rw [look_cons] at hc
    split at hc
    ·rename_i e; cases hc; exact .inl ⟨e, rfl⟩
    ·rename_i e; exact .inr ⟨e, hc⟩
   have her : ∀ e' v, (∀ d, e' ≠ .loc k d) -> ER ι ρ e' v -> ER ι (upd ρ k w.heap.size) e' v := by
    intro e' v hne her
    cases her with
    | val h => exact .val h
    | loc k' o' =>
      have hkk : k' ≠ k := by rintro rfl; exact hne o' rfl
      have := ER.loc (ι := ι) (ρ := upd ρ k w.heap.size) k' o'
      rwa [hρ k' hkk] at this
    | skp => exact .skp
   have hnol : ∀ t d, look st.env t ≠ some (.loc k d) := fun t d ht => by have := h.envl t k d ht; rw [hk] at this; cases this
   refine wp_of_run h1 (hN ι (upd ρ k w.heap.size) _ _ ⟨fun t e' ht => ?_, fun t k' d ht => ?_, fun k' c hc => ?_, fun k1 k2 c1 c2 g1 g2 he => ?_, fun k' c b x q hc hb hq => ?_, h.rel.keep (by simp) fun b x q hb hq => hold _ (hblk b x q hb hq), ?_, by cases hdd : o.dst <;> simp [Act.put, h.defers]⟩)
   ·rw [eval_put a o.dst _ t hd]
    simp only [putE_look] at ht
    split at ht
    ·cases ht; rw [if_pos (by assumption)]
     have := ER.loc (ι := ι) (ρ := upd ρ k w.heap.size) k 0
     rwa [hρk] at this
    ·rw [if_neg (by assumption)]
     exact her e' _ (fun d hd' => by subst hd'; exact hnol t d ht) (h.env t e' ht)
   ·simp only [putE_look] at ht
    rw [look_cons]
    split at ht
    ·cases ht; simp
    ·split
     ·rfl
     ·exact h.envl t k' d ht
   ·rcases hl k' c hc with ⟨rfl, rfl⟩ | ⟨hne, hc'⟩
    ·rw [hρk]; exact ⟨h2, h.cum.fr.size⟩
    ·rw [hρ k' hne]
     obtain ⟨m1, m2⟩ := h.loc k' c hc'
     exact ⟨m1.keep (hold _ m1.lt), m2⟩
   ·rcases hl k1 c1 g1 with ⟨rfl, rfl⟩ | ⟨hne1, f1⟩ <;> rcases hl k2 c2 g2 with ⟨rfl, rfl⟩ | ⟨hne2, f2⟩
    ·rfl
    ·rw [hρk, hρ k2 hne2] at he
     have := (h.loc k2 c2 f2).1.lt; omega
    ·rw [hρk, hρ k1 hne1] at he
     have := (h.loc k1 c1 f1).1.lt; omega
    ·rw [hρ k1 hne1, hρ k2 hne2] at he
     exact h.ldist k1 k2 c1 c2 f1 f2 he
   ·rcases hl k' c hc with ⟨rfl, rfl⟩ | ⟨hne, hc'⟩
    ·rw [hρk]; have := hblk b x q hb hq; omega
    ·rw [hρ k' hne]; exact h.lsep k' c b x q hc' hb hq
   ·exact ⟨h.cum.ext, h.cum.sz, ⟨h.cum.fr.os, h.cum.fr.tape, h.cum.fr.output, by have := h.cum.fr.size; simp; omega, fun j hj hno => by rw [hold j (Nat.lt_of_lt_of_le hj h.cum.fr.size)]; exact h.cum.fr.block j hj hno⟩, h.cum.own⟩
 | H =>
   obtain ⟨rfl, rfl, v, rfl, hrun⟩ := hs
   exact hrun ι ρ a w E.B Nx Q hop h.rel fun v' w' h1 h2 h3 => hN ι ρ v' w' (step_heap h hd (fun _ _ h => by cases h) (fun _ _ => rfl) (SzKeep.refl _) h1 h2 (fun b x q hb hq _ => ⟨b, x, q, hb, hq, Or.inl rfl, id, rfl⟩) (.val h3))
 | A =>
   obtain ⟨rfl, ⟨new, rfl⟩, v, rfl, hrun⟩ := hs
   exact hrun ι ρ a w E.B Nx Q hop h.rel fun ι' v' w' h1 h2 h3 h4 h5 => hN ι' ρ v' w' (step_heap h hd (fun _ _ h => by cases h) h1 ((SzKeep.refl _).append _) h3 h4 (own_new h.rel h1 h2) (.val h5))
 | W =>
   obtain ⟨rfl, hsz, hne, hrun⟩ := hs
   exact hrun ι ρ a w E.B Nx Q hop h.rel fun ι' v' w' h1 h2 h3 h4 h5 => hN ι' ρ v' w' (step_heap h hd hne h1 hsz h2 h3 h4 h5)
theorem SRel.known {ι : Inj} {ρ : Nat -> Nat} {st : St} {a : Act} {w : World} (h : SRel X E ι ρ st a w) {d : Nat} {b : Bool} (hb : a.eval (.tmp d) = .bool b) : SRel X E ι ρ ⟨(d, .val (.bool b)) :: st.env, st.loc, st.hp⟩ a w := by
 refine ⟨fun t e ht => ?_, fun t k o ht => ?_, h.loc, h.ldist, h.lsep, h.rel, h.cum, h.defers⟩
 ·simp only [look_cons] at ht
  split at ht
  ·rename_i e'; cases ht; subst e'; rw [hb]; exact .val (.bool b)
  ·exact h.env t e ht
 ·simp only [look_cons] at ht
  split at ht
  ·cases ht
  ·exact h.envl t k o ht
theorem SRel.passed {ι : Inj} {ρ : Nat -> Nat} {st : St} {a : Act} {w : World} (h : SRel X E ι ρ st a w) {dst : Option Tmp} (hd : ∀ d, dst = some d -> d < a.tmps.size) : SRel X E ι ρ ⟨putE st.env dst .skp, st.loc, st.hp⟩ (a.put dst undef) w := by
 refine ⟨fun t e ht => ?_, fun t k o ht => ?_, h.loc, h.ldist, h.lsep, h.rel, h.cum, by cases hdd : dst <;> simp [Act.put, h.defers]⟩
 ·rw [eval_put a dst undef t hd]
  simp only [putE_look] at ht
  split at ht
  ·cases ht; rw [if_pos (by assumption)]; exact .skp
  ·rw [if_neg (by assumption)]; exact h.env t e ht
 ·simp only [putE_look] at ht
  split at ht
  ·cases ht
  ·exact h.envl t k o ht
theorem put_size (a : Act) (dst : Option Tmp) (v : Value) : (a.put dst v).tmps.size = a.tmps.size := by cases dst <;> simp [Act.put]
def boolOf : Value -> Option Bool
 | .bool b => some b
 | _ => none
theorem yielded_of {ops : Array Oper} {a : Act} {j d : Nat} (hd : dstOf ops j = some d) : yielded ops a.tmps j = boolOf (a.eval (.tmp d)) := by
 unfold dstOf at hd
 unfold yielded
 rw [hd]
 simp only [Option.bind_some, Act.eval, Array.getD_eq_getD_getElem?]
 cases e : a.tmps[d]? with
 | none => rfl
 | some u => cases u <;> rfl
theorem guard_cases {ι : Inj} {ρ : Nat -> Nat} {st : St} {a : Act} {w : World} {ops : Array Oper} {o : Oper} (h : SRel X E ι ρ st a w) {R : Type} {run pass : List (Nat × EV) -> Option R} {r : R}
 (hg : guardK ops o st.env run pass = some r) :
 ∃ env', SRel X E ι ρ ⟨env', st.loc, st.hp⟩ a w /\ ((Region.wanted o (yielded ops a.tmps) = true /\ run env' = some r) ∨ (Region.wanted o (yielded ops a.tmps) = false /\ pass env' = some r)) := by
 unfold guardK at hg
 cases hgd : o.guard with
 | none => rw [hgd] at hg; exact ⟨st.env, h, .inl ⟨by simp [Region.wanted, hgd], hg⟩⟩
 | some p =>
   obtain ⟨j, want⟩ := p
   rw [hgd] at hg
   simp only at hg
   cases hd : dstOf ops j with
   | none => rw [hd] at hg; cases hg
   | some d =>
     rw [hd] at hg
     simp only at hg
     have hw : ∀ b, a.eval (.tmp d) = .bool b -> Region.wanted o (yielded ops a.tmps) = (b == want) := by
      intro b hb
      simp [Region.wanted, hgd, yielded_of hd, hb, boolOf]
     have hbv : ∀ b, look st.env d = some (.val (.bool b)) -> a.eval (.tmp d) = .bool b := by
      intro b hl
      have := h.env d _ hl
      generalize a.eval (.tmp d) = q at *
      cases this with | val h => cases h; rfl
     cases hl : look st.env d with
     | none => rw [hl] at hg; cases hg
     | some e =>
       cases e with
       | loc k o => rw [hl] at hg; cases hg
       | skp =>
         rw [hl] at hg
         refine ⟨st.env, h, .inr ⟨?_, hg⟩⟩
         have := h.env d _ hl
         have hu : a.eval (.tmp d) = undef := by generalize a.eval (.tmp d) = q at *; cases this; rfl
         simp [Region.wanted, hgd, yielded_of hd, hu, undef, boolOf]
       | val v =>
         rw [hl] at hg
         simp only at hg
         have hv : ∃ b, v = .bool b := by
          cases v <;> first | exact ⟨_, rfl⟩ | (cases want <;> cases hg)
         obtain ⟨b, rfl⟩ := hv
         have hb := hbv b hl
         refine ⟨(d, .val (.bool b)) :: st.env, h.known hb, ?_⟩
         rw [hw b hb]
         cases b <;> cases want <;> simp only [ifV] at hg <;> first | exact .inl ⟨rfl, hg⟩ | exact .inr ⟨rfl, hg⟩
theorem regK_sound (hX : XOk P X) {R : Type} {r : R} {ops : Array Oper} {Q : Exit -> Act -> World -> Prop} : ∀ {l : List Oper} {cl : List Cls} {st : St} {K : List Cls -> St -> Option R} {ι : Inj} {ρ : Nat -> Nat} {a : Act} {w : World},
 regK X A ops l cl st K = some r -> SRel X E ι ρ st a w -> (∀ o ∈ l, ∀ d, o.dst = some d -> d < a.tmps.size) →
 (∀ cl' st' ι' ρ' a' w', K cl' st' = some r -> SRel X E ι' ρ' st' a' w' -> a'.tmps.size = a.tmps.size -> Q .normal a' w') -> wpList P ops Q l a w
 | [], cl, st, K, ι, ρ, a, w, hr, h, _, hQ => hQ cl st ι ρ a w hr h rfl
 | o :: os, cl, st, K, ι, ρ, a, w, hr, h, hd, hQ => by
   simp only [regK] at hr
   obtain ⟨env', h', hg⟩ := guard_cases h hr
   unfold wpList
   rcases hg with ⟨hw, hg⟩ | ⟨hw, hg⟩
   ·rw [if_pos hw]
    obtain ⟨e, loc', hp', c, hk, hs⟩ := opK_sound hX hg
    refine .inl (op_step hs h' (hd o (by simp)) fun ι' ρ' v' w' h2 => ?_)
    exact regK_sound hX hk h2 (fun o' ho' d hd' => by rw [put_size]; exact hd o' (by simp [ho']) d hd') fun cl' st' ι2 ρ2 a2 w2 k1 k2 k3 => hQ cl' st' ι2 ρ2 a2 w2 k1 k2 (by rw [k3, put_size])
   ·rw [if_neg (by simp [hw])]
    exact regK_sound hX hg (h'.passed (hd o (by simp))) (fun o' ho' d hd' => by rw [put_size]; exact hd o' (by simp [ho']) d hd') fun cl' st' ι2 ρ2 a2 w2 k1 k2 k3 => hQ cl' st' ι2 ρ2 a2 w2 k1 k2 (by rw [k3, put_size])
end
end Go.AM

/- Code: sequences, conditions, blocks, loops, joins. -/
namespace Go.AM
set_option linter.unusedSimpArgs false
set_option linter.unusedVariables false
def loadSt (kp : Keep) (vs : List Value) (hp : Heap) : St := ⟨lsOf kp.ls ++ envOf 0 kp.vs vs, locOf kp.vs.length kp.cs vs, hp⟩
theorem loadK_st {R : Type} {kp : Keep} {vs : List Value} {hp : Heap} {K : St -> Option R} {r : R} (h : loadK kp vs hp K = some r) : K (loadSt kp vs hp) = some r := by
 unfold loadK at h
 split at h
 ·split at h
  ·exact h
  ·cases h
 ·cases h
structure Part (st' st : St) : Prop where
 env : ∀ t e, look st'.env t = some e -> look st.env t = some e
 loc : ∀ k c, look st'.loc k = some c -> look st.loc k = some c
 envl : ∀ t k d, look st'.env t = some (.loc k d) -> (look st'.loc k).isSome = true
 hp : st'.hp = st.hp
theorem SRel.part {X : Ctx} {E : Entry} {ι : Inj} {ρ : Nat -> Nat} {st st' : St} {a : Act} {w : World} (h : SRel X E ι ρ st a w) (p : Part st' st) : SRel X E ι ρ st' a w := by
 refine ⟨fun t e ht => h.env t e (p.env t e ht), p.envl, fun k c hk => h.loc k c (p.loc k c hk), fun k k' c c' h1 h2 => h.ldist k k' c c' (p.loc _ _ h1) (p.loc _ _ h2), fun k c b x q h1 h2 h3 => ?_, by rw [p.hp]; exact h.rel, by rw [p.hp]; exact h.cum, h.defers⟩
 rw [p.hp] at h3
 exact h.lsep k c b x q (p.loc _ _ h1) h2 h3
theorem valsK_ev {R : Type} {env : List (Nat × EV)} {r : R} : ∀ {ss : List Nat} {K : List Value -> Option R}, valsK env ss K = some r -> ∃ vs, K vs = some r /\ vs.length = ss.length /\ ∀ (i s : Nat), ss[i]? = some s -> ∃ v, vs[i]? = some v /\ look env s = some (.val v)
 | [], K, h => ⟨[], h, rfl, fun i s e => by simp at e⟩
 | s :: ss, K, h => by
   simp only [valsK] at h
   cases e : look env s with
   | none => rw [e] at h; cases h
   | some v =>
     cases v with
     | val v =>
       rw [e] at h
       obtain ⟨vs, h1, h2, h3⟩ := valsK_ev h
       refine ⟨v :: vs, h1, by simp [h2], fun i t ht => ?_⟩
       cases i with
       | zero => simp at ht; subst ht; exact ⟨v, by simp, e⟩
       | succ i => simp at ht; simpa using h3 i t ht
     | loc k o => rw [e] at h; cases h
     | skp => rw [e] at h; cases h
theorem csK_ev {R : Type} {loc : List (Nat × List Value)} {r : R} : ∀ {ks : List (Nat × Nat)} {K : List Value -> Option R}, csK loc ks K = some r -> ∃ vs, K vs = some r /\ vs.length = total ks ∧
 ∀ (pre : List Value) (k : Nat) (c : List Value), look (locOf pre.length ks (pre ++ vs)) k = some c -> look loc k = some c
 | [], K, h => ⟨[], h, rfl, fun pre k c e => by simp [locOf, look] at e⟩
 | (k, n) :: ks, K, h => by
   simp only [csK] at h
   cases e : look loc k with
   | none => rw [e] at h; cases h
   | some cs =>
     rw [e] at h
     simp only at h
     cases hb : Nat.beq cs.length n with
     | false => rw [hb] at h; cases h
     | true =>
       rw [hb] at h
       have hn := Nat.eq_of_beq_eq_true hb
       obtain ⟨vs, h1, h2, h3⟩ := csK_ev h
       refine ⟨cs ++ vs, h1, by simp [total, hn, h2], fun pre j c ej => ?_⟩
       simp only [locOf, look_cons] at ej
       split at ej
       ·rename_i e'
        subst e'
        have ht : tabl pre.length n (pre ++ (cs ++ vs)) = cs := by
         apply List.ext_getElem?
         intro i
         by_cases hi : i < n
         ·rw [tabl_get _ _ _ _ hi, List.getD_eq_getElem?_getD, List.getElem?_append_right (by omega), List.getElem?_append_left (by omega)]
          have : pre.length + i - pre.length = i := by omega
          rw [this, List.getElem?_eq_getElem (by omega)]; rfl
         ·rw [List.getElem?_eq_none (by rw [tabl_len]; omega), List.getElem?_eq_none (by omega)]
        rw [ht] at ej
        rw [e, ej]
       ·have := h3 (pre ++ cs) j c
        rw [List.length_append, hn, List.append_assoc] at this
        exact this ej
theorem lsOk_ev {env : List (Nat × EV)} : ∀ {ls : List (Nat × Nat × Nat)}, lsOk env ls = true -> ∀ t e, look (lsOf ls) t = some e -> look env t = some e
 | [], _, t, e, h => by simp [lsOf, look] at h
 | (s, k, o) :: ls, hok, t, e, h => by
   simp only [lsOk] at hok
   cases hl : look env s with
   | none => rw [hl] at hok; cases hok
   | some e' =>
     cases e' with
     | loc k' o' =>
       rw [hl] at hok
       simp only [Bool.and_eq_true] at hok
       obtain ⟨⟨h1, h2⟩, h3⟩ := hok
       have e1 := Nat.eq_of_beq_eq_true h1
       have e2 := Nat.eq_of_beq_eq_true h2
       subst e1 e2
       simp only [lsOf, look_cons] at h
       split at h
       ·rename_i e; subst e; rw [hl]; exact h
       ·exact lsOk_ev h3 t e h
     | val v => rw [hl] at hok; cases hok
     | skp => rw [hl] at hok; cases hok
theorem look_append {α : Type} : ∀ {l m : List (Nat × α)} {t : Nat} {e : α}, look (l ++ m) t = some e -> look l t = some e ∨ (look l t = none /\ look m t = some e)
 | [], m, t, e, h => .inr ⟨rfl, h⟩
 | (k, v) :: l, m, t, e, h => by
   simp only [List.cons_append, look_cons] at h ⊢
   split at h
   ·rename_i hk; rw [if_pos hk]; exact .inl h
   ·rename_i hk; rw [if_neg hk]; exact look_append h
theorem look_lsOf : ∀ {ls : List (Nat × Nat × Nat)} {t : Nat} {e : EV}, look (lsOf ls) t = some e -> ∃ k o, e = .loc k o /\ (t, k, o) ∈ ls
 | [], t, e, h => by simp [lsOf, look] at h
 | (s, k, o) :: ls, t, e, h => by
   simp only [lsOf, look_cons] at h
   split at h
   ·rename_i hs; subst hs; cases h; exact ⟨k, o, rfl, by simp⟩
   ·obtain ⟨k', o', h1, h2⟩ := look_lsOf h
    exact ⟨k', o', h1, by simp [h2]⟩
theorem look_envOf : ∀ {ss : List Nat} {vs : List Value} {i t : Nat} {e : EV}, look (envOf i ss vs) t = some e -> ∃ j, ss[j]? = some t /\ e = .val (vs.getD (i + j) undef)
 | [], vs, i, t, e, h => by simp [envOf, look] at h
 | s :: ss, vs, i, t, e, h => by
   simp only [envOf, look_cons] at h
   split at h
   ·rename_i hs; subst hs; cases h; exact ⟨0, by simp, rfl⟩
   ·obtain ⟨j, h1, h2⟩ := look_envOf h
    exact ⟨j + 1, by simpa using h1, by rw [h2]; congr 2; omega⟩
theorem hasK_mem : ∀ {ls : List (Nat × Nat × Nat)} {cs : List (Nat × Nat)}, hasK ls cs = true -> ∀ s k o, (s, k, o) ∈ ls -> ∃ n, look cs k = some n
 | [], cs, _, s, k, o, h => by cases h
 | (s', k', o') :: ls, cs, hh, s, k, o, h => by
   simp only [hasK, Bool.and_eq_true] at hh
   rcases List.mem_cons.1 h with h | h
   ·obtain ⟨rfl, rfl, rfl⟩ : s = s' /\ k = k' /\ o = o' := by simpa using h
    cases e : look cs k with
    | none => rw [e] at hh; exact absurd hh.1 (by simp)
    | some n => exact ⟨n, rfl⟩
   ·exact hasK_mem hh.2 s k o h
theorem look_locOf : ∀ {cs : List (Nat × Nat)} {vs : List Value} {i k n : Nat}, look cs k = some n -> (look (locOf i cs vs) k).isSome = true
 | [], vs, i, k, n, h => by simp [look] at h
 | (k', n') :: cs, vs, i, k, n, h => by
   simp only [locOf, look_cons] at h ⊢
   split
   ·rfl
   ·rename_i hk
    rw [if_neg hk] at h
    exact look_locOf h
theorem saveK_part {R : Type} {kp : Keep} {st : St} {K : List Value -> Heap -> Option R} {r : R} (h : saveK kp st K = some r) (hk : hasK kp.ls kp.cs = true) : ∃ vs, K vs st.hp = some r /\ Part (loadSt kp vs st.hp) st := by
 unfold saveK at h
 split at h
 ·rename_i hls
  obtain ⟨vs, h, hvl, hv⟩ := valsK_ev h
  obtain ⟨cs, h, hcl, hc⟩ := csK_ev h
  refine ⟨vs ++ cs, h, ⟨fun t e he => ?_, fun k c hkc => ?_, fun t k d he => ?_, rfl⟩⟩
  ·rcases look_append he with he | ⟨_, he⟩
   ·exact lsOk_ev hls t e he
   ·obtain ⟨j, h1, rfl⟩ := look_envOf he
    obtain ⟨v, h2, h3⟩ := hv j t h1
    have hj : j < vs.length := (List.getElem?_eq_some_iff.1 h2).1
    rw [h3, Nat.zero_add, List.getD_eq_getElem?_getD, List.getElem?_append_left hj, h2]; rfl
  ·have := hc vs k c
   rw [hvl] at this
   exact this hkc
  ·rcases look_append he with he | ⟨_, he⟩
   ·obtain ⟨k', o', h1, h2⟩ := look_lsOf he
    cases h1
    obtain ⟨n, hn⟩ := hasK_mem hk _ _ _ h2
    exact look_locOf hn
   ·obtain ⟨j, _, h2⟩ := look_envOf he
    cases h2
 ·cases h
theorem keep_has {kp : Keep} (h : keepOk kp = true) : hasK kp.ls kp.cs = true := by
 unfold keepOk at h
 simp only [Bool.and_eq_true] at h
 exact h.1
theorem exitB_eq {x e : Exit} (h : exitB x e = true) : x = e := by
 unfold exitB at h
 split at h
 ·rfl
 ·rfl
 ·rw [Nat.eq_of_beq_eq_true h]
 ·cases h
inductive LpN (B : List Value -> Heap -> Option (Option Nat × List Value × Heap)) : Nat -> List Value -> Heap -> (Nat × List Value × Heap) -> Prop
 | stop {vs : List Value} {hp : Heap} {m : Nat} {vs' : List Value} {hp' : Heap} : B vs hp = some (some m, vs', hp') -> LpN B 0 vs hp (m, vs', hp')
 | more {n : Nat} {vs : List Value} {hp : Heap} {vs1 : List Value} {hp1 : Heap} {res : Nat × List Value × Heap} : B vs hp = some (none, vs1, hp1) -> LpN B n vs1 hp1 res -> LpN B (n + 1) vs hp res
def LpOk (lp : (List Value -> Heap -> Option (Option Nat × List Value × Heap)) -> List Value -> Heap -> Option (Nat × List Value × Heap)) : Prop :=
 ∀ B vs hp res, lp B vs hp = some res -> ∃ n, LpN B n vs hp res
theorem out_in {e : Exit} {st : St} : ∀ {outs : List (Exit × Keep)} {S : Type} {F : Nat -> List Value -> Heap -> Option S} {s : S},
 outK outs e st F = some s -> ∃ n vs, F n vs st.hp = some s /\ ∀ {R : Type} {K : Exit -> St -> Option R} {r : R}, inK outs n vs st.hp K = some r -> ∃ st', Part st' st /\ K e st' = some r
 | [], _, _, _, h => by cases h
 | (x, kp) :: l, S, F, s, h => by
   simp only [outK] at h
   split at h
   ·rename_i hx
    have := exitB_eq hx
    subst this
    by_cases hk : hasK kp.ls kp.cs = true
    ·obtain ⟨vs, h1, h2⟩ := saveK_part h hk
     exact ⟨0, vs, h1, fun hin => ⟨_, h2, loadK_st hin⟩⟩
    ·unfold saveK at h
     split at h
     ·obtain ⟨vs, h, _⟩ := valsK_ev h
      obtain ⟨cs, h, _⟩ := csK_ev h
      refine ⟨0, vs ++ cs, h, fun hin => ?_⟩
      simp only [inK, loadK] at hin
      split at hin
      ·rename_i hok; exact absurd (keep_has hok) hk
      ·cases hin
     ·cases h
   ·obtain ⟨n, vs, h1, h2⟩ := out_in h
    exact ⟨n + 1, vs, h1, fun hin => h2 hin⟩
def DrawnOk (P : Program) (X : Ctx) : Prop := ∀ (A : Ann) (E : Entry) (R : Type) (r : R) (id : Nat) (ops : Array Oper) (st : St) (K : List Cls -> St -> Option R) (ι : Inj) (ρ : Nat -> Nat) (a : Act) (w : World) (Q : Exit -> Act -> World -> Prop),
    (regK X A ops ops.toList [] st fun cl st => match orderOk ops cl.reverse with | true => K cl st | false => none) = some r -> SRel X E ι ρ st a w -> (∀ o ∈ ops.toList, ∀ d, o.dst = some d -> d < a.tmps.size) →
    (∀ cl' st' ι' ρ' a' w', K cl' st' = some r -> SRel X E ι' ρ' st' a' w' -> a'.tmps.size = a.tmps.size -> Q .normal a' w') -> (Code.region id ops true).wp P Q a w
theorem dstR_mem {n : Nat} : ∀ {l : List Oper}, dstR n l = true -> ∀ o ∈ l, ∀ d, o.dst = some d -> d < n
 | [], _, o, h, _, _ => by cases h
 | o' :: l, hh, o, h, d, hd => by
   simp only [dstR, Bool.and_eq_true] at hh
   rcases List.mem_cons.1 h with rfl | h
   ·rw [hd] at hh
    exact Nat.le_of_ble_eq_true hh.1
   ·exact dstR_mem hh.2 o h d hd
theorem exists_least {p : Nat -> Prop} : ∀ n, p n -> ∃ m, p m /\ ∀ k, p k -> m <= k := by
 intro n
 induction n using Nat.strongRecOn with
 | _ n ih =>
   intro h
   by_cases hs : ∃ k, k < n /\ p k
   ·obtain ⟨k, hk, hp⟩ := hs; exact ih k hk hp
   ·exact ⟨n, h, fun k hp => Nat.le_of_not_lt fun hk => hs ⟨k, hk, hp⟩⟩
noncomputable def least (p : Nat -> Prop) : Nat := @dite _ (∃ m, p m /\ ∀ k, p k -> m <= k) (Classical.propDecidable _) (fun h => Classical.choose h) (fun _ => 0)
theorem least_spec {p : Nat -> Prop} (h : ∃ n, p n) : p (least p) := by
 obtain ⟨n, h⟩ := h
 have hl := exists_least n h
 unfold least; rw [dif_pos hl]; exact (Classical.choose_spec hl).1
theorem least_le {p : Nat -> Prop} {n : Nat} (h : p n) : least p <= n := by
 have hl := exists_least n h
 unfold least; rw [dif_pos hl]; exact (Classical.choose_spec hl).2 n h
noncomputable def roundB (X : Ctx) (A : Ann) (li : LInfo) (x : Code) (vs : List Value) (hp : Heap) : Option (Option Nat × List Value × Heap) :=
 loadK li.ks vs hp fun st => codeK X A x st fun e st => match e with
  | .normal => saveK li.ks st fun vs hp => some (none, vs, hp)
  | e => outK li.outs e st fun n vs hp => some (some n, vs, hp)
theorem LpN.ok {X : Ctx} {A : Ann} {li : LInfo} {x : Code} {m : Nat} {vs : List Value} {hp : Heap} {res : Nat × List Value × Heap} (h : LpN (roundB X A li x) m vs hp res) : keepOk li.ks = true := by
 have : ∀ r, roundB X A li x vs hp = some r -> keepOk li.ks = true := by
  intro r hr
  unfold roundB loadK at hr
  split at hr
  ·assumption
  ·cases hr
 cases h with
 | stop h => exact this _ h
 | more h _ => exact this _ h
theorem loop_sound {P : Program} {X : Ctx} {A : Ann} {E : Entry} {li : LInfo} {x : Code} {sz : Nat}
 (ih : ∀ {r' : Option Nat × List Value × Heap} {st : St} {K : Exit -> St -> Option (Option Nat × List Value × Heap)} {ι : Inj} {ρ : Nat -> Nat} {a : Act} {w : World} {Q : Exit -> Act -> World -> Prop},
  codeK X A x st K = some r' -> SRel X E ι ρ st a w -> a.tmps.size = sz -> (∀ e st' ι' ρ' a' w', K e st' = some r' -> SRel X E ι' ρ' st' a' w' -> a'.tmps.size = sz -> Q e a' w') -> x.wp P Q a w)
 {m : Nat} {vs : List Value} {hp : Heap} {res : Nat × List Value × Heap} (hm : LpN (roundB X A li x) m vs hp res) {R : Type} {K : Exit -> St -> Option R} {r : R} {Q : Exit -> Act -> World -> Prop}
 (hin : inK li.outs res.1 res.2.1 res.2.2 K = some r) {ι : Inj} {ρ : Nat -> Nat} {a : Act} {w : World} (h : SRel X E ι ρ (loadSt li.ks vs hp) a w) (hsz : a.tmps.size = sz)
 (hQ : ∀ e st' ι' ρ' a' w', K e st' = some r -> SRel X E ι' ρ' st' a' w' -> a'.tmps.size = sz -> Q e a' w') : (Code.loop x).wp P Q a w := by
 have hk := keep_has hm.ok
 refine wp_loop (fun a w => ∃ n, ∃ vs hp ι ρ, LpN (roundB X A li x) n vs hp res /\ SRel X E ι ρ (loadSt li.ks vs hp) a w /\ a.tmps.size = sz)
  (fun a w => least fun n => ∃ vs hp ι ρ, LpN (roundB X A li x) n vs hp res /\ SRel X E ι ρ (loadSt li.ks vs hp) a w /\ a.tmps.size = sz) ⟨m, vs, hp, ι, ρ, hm, h, hsz⟩ ?_
 intro a w hI
 have hleast := least_spec hI
 generalize (least fun n => ∃ vs hp ι ρ, LpN (roundB X A li x) n vs hp res /\ SRel X E ι ρ (loadSt li.ks vs hp) a w /\ a.tmps.size = sz) = n0 at hleast ⊢
 obtain ⟨vs, hp, ι, ρ, hL, h, hsz⟩ := hleast
 have hround : ∃ r', roundB X A li x vs hp = some r' /\ ((∃ m vs' hp', r' = (some m, vs', hp') /\ res = (m, vs', hp')) ∨ (∃ n1 vs1 hp1, r' = (none, vs1, hp1) /\ n0 = n1 + 1 /\ LpN (roundB X A li x) n1 vs1 hp1 res)) := by
  cases hL with
  | stop h => exact ⟨_, h, .inl ⟨_, _, _, rfl, rfl⟩⟩
  | more h h' => exact ⟨_, h, .inr ⟨_, _, _, rfl, rfl, h'⟩⟩
 obtain ⟨r', hr', hcase⟩ := hround
 refine ih (loadK_st hr') h hsz fun e st' ι' ρ' a' w' k1 k2 k3 => ?_
 by_cases he : e = .normal
 ·subst he
  obtain ⟨vs2, h1, hp2⟩ := saveK_part k1 hk
  cases h1
  rcases hcase with ⟨m, vs', hp', h1, _⟩ | ⟨n1, vs1, hp1, h1, h2, h3⟩
  ·cases h1
  ·cases h1
   have hJ : ∃ vs hp ι ρ, LpN (roundB X A li x) n1 vs hp res /\ SRel X E ι ρ (loadSt li.ks vs hp) a' w' /\ a'.tmps.size = sz := ⟨vs2, st'.hp, ι', ρ', h3, k2.part hp2, k3⟩
   refine ⟨⟨n1, hJ⟩, ?_⟩
   have := least_le (p := fun n => ∃ vs hp ι ρ, LpN (roundB X A li x) n vs hp res /\ SRel X E ι ρ (loadSt li.ks vs hp) a' w' /\ a'.tmps.size = sz) hJ
   omega
 ·have k1' : (outK li.outs e st' fun n vs hp => some (some n, vs, hp)) = some r' := by
   cases e <;> first | exact absurd rfl he | exact k1
  obtain ⟨n, vs2, h1, h2⟩ := out_in k1'
  cases h1
  rcases hcase with ⟨m, vs', hp', h1, h3⟩ | ⟨n1, vs1, hp1, h1, _⟩
  ·cases h1
   subst h3
   obtain ⟨st2, hp2, hk2⟩ := h2 hin
   have := hQ e st2 ι' ρ' a' w' hk2 (k2.part hp2) k3
   cases e <;> first | exact absurd rfl he | exact this
  ·cases h1
theorem codeK_sound {P : Program} {X : Ctx} (hX : XOk P X) (hl : LpOk X.lp) (hD : DrawnOk P X) {A : Ann} {E : Entry} : ∀ (c : Code) {R : Type} {r : R} {st : St} {K : Exit -> St -> Option R} {ι : Inj} {ρ : Nat -> Nat} {a : Act} {w : World} {Q : Exit -> Act -> World -> Prop} {n : Nat},
 codeK X A c st K = some r -> SRel X E ι ρ st a w -> dstC n c = true -> n <= a.tmps.size →
 (∀ e st' ι' ρ' a' w', K e st' = some r -> SRel X E ι' ρ' st' a' w' -> a'.tmps.size = a.tmps.size -> Q e a' w') -> c.wp P Q a w
 | .skip, R, r, st, K, ι, ρ, a, w, Q, n, hr, h, hd, hn, hQ => wp_skip (hQ _ _ _ _ _ _ hr h rfl)
 | .exit id, R, r, st, K, ι, ρ, a, w, Q, n, hr, h, hd, hn, hQ => wp_exit (hQ _ _ _ _ _ _ hr h rfl)
 | .ret, R, r, st, K, ι, ρ, a, w, Q, n, hr, h, hd, hn, hQ => wp_ret (hQ _ _ _ _ _ _ hr h rfl)
 | .region id ops draw, R, r, st, K, ι, ρ, a, w, Q, n, hr, h, hd, hn, hQ => by
   have hdst : ∀ o ∈ ops.toList, ∀ d, o.dst = some d -> d < a.tmps.size := fun o ho d hd' => Nat.lt_of_lt_of_le (dstR_mem hd o ho d hd') hn
   cases draw with
   | false =>
     simp only [codeK] at hr
     exact wp_region_list (regK_sound hX hr h hdst fun cl' st' ι' ρ' a' w' k1 k2 k3 => hQ _ _ _ _ _ _ k1 k2 k3)
   | true =>
     simp only [codeK] at hr
     exact hD A E R r id ops st (fun _ st => K .normal st) ι ρ a w Q hr h hdst fun cl' st' ι' ρ' a' w' k1 k2 k3 => hQ _ _ _ _ _ _ k1 k2 k3
 | .cond c x y, R, r, st, K, ι, ρ, a, w, Q, n, hr, h, hd, hn, hQ => by
   simp only [codeK] at hr
   simp only [dstC, Bool.and_eq_true] at hd
   obtain ⟨v, hv, hr⟩ := vaK_ev hr
   have hev : VR ι v (a.eval c) := by
    have := hv.relv (ρ := ρ) (a := a) (o := ⟨none, .move c, 0, "", #[], none⟩) (operR_of h _) (by simp [Op.operands])
    exact this
   have key : ∀ b, v = .bool b -> a.eval c = .bool b := by
    rintro b rfl
    generalize a.eval c = q at *
    cases hev; rfl
   have hb : ∃ b, v = .bool b /\ (if b then codeK X A x st K else codeK X A y st K) = some r := by
    ·unfold ifV at hr
     split at hr
     ·exact ⟨true, rfl, hr⟩
     ·exact ⟨false, rfl, hr⟩
     ·cases hr
   obtain ⟨b, rfl, hr⟩ := hb
   cases b with
   | true => exact wp_cond_true (key _ rfl) (codeK_sound hX hl hD x hr h hd.1 hn hQ)
   | false => exact wp_cond_false (key _ rfl) (codeK_sound hX hl hD y hr h hd.2 hn hQ)
 | .block id x, R, r, st, K, ι, ρ, a, w, Q, n, hr, h, hd, hn, hQ => by
   simp only [codeK] at hr
   refine wp_block (codeK_sound hX hl hD x hr h hd hn fun e st' ι' ρ' a' w' k1 k2 k3 => ?_)
   cases e with
   | exit i =>
     simp only at k1
     simp only [Exit.inBlock]
     split at k1
     ·rename_i hb; rw [if_pos (Nat.eq_of_beq_eq_true hb)]; exact hQ _ _ _ _ _ _ k1 k2 k3
     ·rename_i hb
      rw [if_neg (by rintro rfl; rw [Nat.beq_refl] at hb; cases hb)]
      exact hQ _ _ _ _ _ _ k1 k2 k3
   | _ => exact hQ _ _ _ _ _ _ k1 k2 k3
 | .seq x y, R, r, st, K, ι, ρ, a, w, Q, n, hr, h, hd, hn, hQ => by
   simp only [codeK] at hr
   simp only [dstC, Bool.and_eq_true] at hd
   refine wp_seq ?_
   have behind : ∀ e st' ι' ρ' a' w', (match e with | .normal => codeK X A y st' K | e => K e st') = some r -> SRel X E ι' ρ' st' a' w' -> a'.tmps.size = a.tmps.size -> Exit.then (y.wp P Q) Q e a' w' := by
    intro e st' ι' ρ' a' w' k1 k2 k3
    cases e with
    | normal => exact codeK_sound hX hl hD y k1 k2 hd.2 (by omega) fun e st2 ι2 ρ2 a2 w2 m1 m2 m3 => hQ _ _ _ _ _ _ m1 m2 (by omega)
    | _ => exact hQ _ _ _ _ _ _ k1 k2 k3
   split at hr
   ·exact codeK_sound hX hl hD x hr h hd.1 hn behind
   ·rename_i outs _
    obtain ⟨s, hs, hr⟩ := bind_some' hr
    refine codeK_sound hX hl hD x hs h hd.1 hn fun e st' ι' ρ' a' w' k1 k2 k3 => ?_
    obtain ⟨m, vs, h1, h2⟩ := out_in k1
    cases h1
    obtain ⟨st2, hp, hk⟩ := h2 hr
    exact behind e st2 ι' ρ' a' w' hk (k2.part hp) k3
 | .loop x, R, r, st, K, ι, ρ, a, w, Q, n, hr, h, hd, hn, hQ => by
   simp only [codeK] at hr
   split at hr
   ·cases hr
   ·rename_i li hli
    have hok : keepOk li.ks = true := by
     have hr' := hr
     unfold saveK at hr'
     split at hr'
     ·obtain ⟨vs, hr', _⟩ := valsK_ev hr'
      obtain ⟨cs, hr', _⟩ := csK_ev hr'
      obtain ⟨res, hres, _⟩ := bind_some' hr'
      obtain ⟨m, hm⟩ := hl _ _ _ _ hres
      exact LpN.ok hm
     ·cases hr'
    obtain ⟨vs, hr, hp⟩ := saveK_part hr (keep_has hok)
    obtain ⟨res, hres, hr⟩ := bind_some' hr
    obtain ⟨m, hm⟩ := hl _ _ _ _ hres
    exact loop_sound (sz := a.tmps.size) (fun {r'} {st} {K} {ι} {ρ} {a'} {w} {Q} h1 h2 h3 h4 => codeK_sound hX hl hD x h1 h2 hd (by omega) fun e st' ι' ρ' a2 w' k1 k2 k3 => h4 e st' ι' ρ' a2 w' k1 k2 (by omega)) hm hr (h.part hp) rfl hQ
 | .rangeFunc .., R, r, st, K, ι, ρ, a, w, Q, n, hr, h, hd, hn, hQ => by cases hr
 | .scope .., R, r, st, K, ι, ρ, a, w, Q, n, hr, h, hd, hn, hQ => by cases hr
 | .label .., R, r, st, K, ι, ρ, a, w, Q, n, hr, h, hd, hn, hQ => by cases hr
 | .goto .., R, r, st, K, ι, ρ, a, w, Q, n, hr, h, hd, hn, hQ => by cases hr
 | .refuse .., R, r, st, K, ι, ρ, a, w, Q, n, hr, h, hd, hn, hQ => by cases hr
end Go.AM

/- Calls: what a function's body comes to. -/
namespace Go.AM
set_option linter.unusedSimpArgs false
set_option linter.unusedVariables false
theorem OpSpec.sz {P : Program} {X : Ctx} {o : Oper} {st : St} {e : EV} {loc' : List (Nat × List Value)} {hp' : Heap} {c : Cls} (h : OpSpec P X o st e loc' hp' c) : SzKeep st.hp hp' := by
 cases c with
 | P => obtain ⟨_, rfl, _⟩ := h; exact SzKeep.refl _
 | L k => obtain ⟨_, rfl, _⟩ := h; exact SzKeep.refl _
 | S k => obtain ⟨_, rfl, _⟩ := h; exact SzKeep.refl _
 | N k => obtain ⟨_, _, rfl, _⟩ := h; exact SzKeep.refl _
 | H => obtain ⟨_, rfl, _⟩ := h; exact SzKeep.refl _
 | A => obtain ⟨_, ⟨new, rfl⟩, _⟩ := h; exact (SzKeep.refl _).append _
 | W => exact h.2.1
theorem guard_sz {R : Type} {ops : Array Oper} {o : Oper} {env : List (Nat × EV)} {run pass : List (Nat × EV) -> Option R} {r : R} (h : guardK ops o env run pass = some r) : ∃ env', run env' = some r ∨ pass env' = some r := by
 have hif : ∀ {v : Value} {x y : Option R}, ifV v x y = some r -> x = some r ∨ y = some r := by
  intro v x y h
  unfold ifV at h
  split at h
  ·exact .inl h
  ·exact .inr h
  ·cases h
 unfold guardK at h
 split at h
 ·exact ⟨_, .inl h⟩
 ·split at h
  ·cases h
  ·split at h
   ·split at h
    ·rcases hif h with h | h
     ·exact ⟨_, .inl h⟩
     ·exact ⟨_, .inr h⟩
    ·rcases hif h with h | h
     ·exact ⟨_, .inr h⟩
     ·exact ⟨_, .inl h⟩
   ·exact ⟨_, .inr h⟩
   ·cases h
theorem regK_sz {P : Program} {X : Ctx} {A : Ann} (hX : XOk P X) {R : Type} {r : R} {ops : Array Oper} : ∀ {l : List Oper} {cl : List Cls} {st : St} {K : List Cls -> St -> Option R}, regK X A ops l cl st K = some r →
 ∃ cl' st', K cl' st' = some r /\ SzKeep st.hp st'.hp
 | [], cl, st, K, h => ⟨cl, st, h, SzKeep.refl _⟩
 | o :: os, cl, st, K, h => by
   simp only [regK] at h
   obtain ⟨env', h | h⟩ := guard_sz h
   ·obtain ⟨e, loc', hp', c, hk, hs⟩ := opK_sound hX h
    obtain ⟨cl', st', h1, h2⟩ := regK_sz hX hk
    exact ⟨cl', st', h1, hs.sz.trans h2⟩
   ·obtain ⟨cl', st', h1, h2⟩ := regK_sz hX h
    exact ⟨cl', st', h1, h2⟩
theorem saveK_hp {R : Type} {kp : Keep} {st : St} {K : List Value -> Heap -> Option R} {r : R} (h : saveK kp st K = some r) : ∃ vs, K vs st.hp = some r := by
 unfold saveK at h
 split at h
 ·obtain ⟨vs, h, _⟩ := valsK_ev h
  obtain ⟨cs, h, _⟩ := csK_ev h
  exact ⟨_, h⟩
 ·cases h
theorem outK_hp {R : Type} {e : Exit} {st : St} {r : R} : ∀ {outs : List (Exit × Keep)} {K : Nat -> List Value -> Heap -> Option R}, outK outs e st K = some r -> ∃ n vs, K n vs st.hp = some r
 | [], K, h => by cases h
 | (x, kp) :: l, K, h => by
   simp only [outK] at h
   split at h
   ·obtain ⟨vs, h⟩ := saveK_hp h; exact ⟨0, vs, h⟩
   ·obtain ⟨n, vs, h⟩ := outK_hp h; exact ⟨n + 1, vs, h⟩
theorem inK_hp {R : Type} {vs : List Value} {hp : Heap} {K : Exit -> St -> Option R} {r : R} : ∀ {outs : List (Exit × Keep)} {n : Nat}, inK outs n vs hp K = some r -> ∃ e st, K e st = some r /\ st.hp = hp
 | [], _, h => by cases h
 | (x, kp) :: l, 0, h => ⟨x, _, loadK_st h, rfl⟩
 | (x, kp) :: l, n + 1, h => inK_hp (outs := l) (n := n) h
theorem codeK_sz {P : Program} {X : Ctx} (hX : XOk P X) (hl : LpOk X.lp) {A : Ann} : ∀ (c : Code) {R : Type} {r : R} {st : St} {K : Exit -> St -> Option R}, codeK X A c st K = some r -> ∃ e st', K e st' = some r /\ SzKeep st.hp st'.hp
 | .skip, R, r, st, K, h => ⟨_, _, h, SzKeep.refl _⟩
 | .exit id, R, r, st, K, h => ⟨_, _, h, SzKeep.refl _⟩
 | .ret, R, r, st, K, h => ⟨_, _, h, SzKeep.refl _⟩
 | .region id ops draw, R, r, st, K, h => by
   cases draw with
   | false =>
     simp only [codeK] at h
     obtain ⟨cl', st', h1, h2⟩ := regK_sz hX h
     exact ⟨_, st', h1, h2⟩
   | true =>
     simp only [codeK] at h
     obtain ⟨cl', st', h1, h2⟩ := regK_sz hX h
     split at h1
     ·exact ⟨_, st', h1, h2⟩
     ·cases h1
 | .cond c x y, R, r, st, K, h => by
   simp only [codeK] at h
   obtain ⟨v, hv, h⟩ := vaK_ev h
   ·unfold ifV at h
    split at h
    ·exact codeK_sz hX hl x h
    ·exact codeK_sz hX hl y h
    ·cases h
 | .block id x, R, r, st, K, h => by
   simp only [codeK] at h
   obtain ⟨e, st', h1, h2⟩ := codeK_sz hX hl x h
   split at h1
   ·split at h1
    ·exact ⟨_, _, h1, h2⟩
    ·exact ⟨_, _, h1, h2⟩
   ·exact ⟨_, _, h1, h2⟩
 | .seq x y, R, r, st, K, h => by
   simp only [codeK] at h
   have behind : ∀ (e : Exit) (st1 : St), (match e with | .normal => codeK X A y st1 K | e => K e st1) = some r -> ∃ e st', K e st' = some r /\ SzKeep st1.hp st'.hp := by
    intro e st1 h1
    cases e with
    | normal => exact codeK_sz hX hl y h1
    | _ => exact ⟨_, _, h1, SzKeep.refl _⟩
   split at h
   ·obtain ⟨e, st1, h1, h2⟩ := codeK_sz hX hl x h
    obtain ⟨e', st', h3, h4⟩ := behind e st1 h1
    exact ⟨e', st', h3, h2.trans h4⟩
   ·obtain ⟨s, hs, h⟩ := bind_some' h
    obtain ⟨e, st1, h1, h2⟩ := codeK_sz hX hl x hs
    obtain ⟨n, vs, h1⟩ := outK_hp h1
    cases h1
    obtain ⟨e', st2, h3, h4⟩ := inK_hp h
    obtain ⟨e2, st', h5, h6⟩ := behind e' st2 h3
    rw [h4] at h6
    exact ⟨e2, st', h5, h2.trans h6⟩
 | .loop x, R, r, st, K, h => by
   simp only [codeK] at h
   split at h
   ·cases h
   ·rename_i li hli
    obtain ⟨vs, h⟩ := saveK_hp h
    obtain ⟨res, hres, h⟩ := bind_some' h
    obtain ⟨m, hm⟩ := hl _ _ _ _ hres
    obtain ⟨e, st', h1, h2⟩ := inK_hp h
    refine ⟨e, st', h1, ?_⟩
    rw [h2]
    have step : ∀ {vs : List Value} {hp : Heap} {r' : Option Nat × List Value × Heap}, roundB X A li x vs hp = some r' -> SzKeep hp r'.2.2 := by
     intro vs hp r' h
     obtain ⟨e, st', h1, h2⟩ := codeK_sz hX hl x (loadK_st h)
     have h3 : st'.hp = r'.2.2 := by
      split at h1
      ·obtain ⟨_, h⟩ := saveK_hp h1; cases h; rfl
      ·obtain ⟨_, _, h⟩ := outK_hp h1; cases h; rfl
     rw [<- h3]; exact h2
    have : ∀ {m : Nat} {vs : List Value} {hp : Heap} {res : Nat × List Value × Heap}, LpN (roundB X A li x) m vs hp res -> SzKeep hp res.2.2 := by
     intro m vs hp res h
     induction h with
     | stop h => exact step h
     | more h _ ih => exact (step h).trans ih
    exact this hm
 | .rangeFunc .., R, r, st, K, h => by cases h
 | .scope .., R, r, st, K, h => by cases h
 | .label .., R, r, st, K, h => by cases h
 | .goto .., R, r, st, K, h => by cases h
 | .refuse .., R, r, st, K, h => by cases h
def resG (tmps : Array Value) : ResultVar -> Sem Value
 | .tmp t => pure (tmps.getD t undef)
 | .cell b t => do loadVar t (<- asAddr (tmps.getD b undef))
theorem results_eq (fn : Func) (tmps : Array Value) : results fn tmps = (do let vs <- fn.results.mapM (resG tmps); pure (if h : vs.size = 1 then vs[0] else .tuple vs)) := by
 unfold results
 congr 1
theorem resK_run {P : Program} {X : Ctx} (hX : XOk P X) {E : Entry} {ι : Inj} {ρ : Nat -> Nat} {st : St} {a : Act} {w : World} (h : SRel X E ι ρ st a w) {R : Type} {r : R} : ∀ {rs : List ResultVar} {K : List Value -> Option R}, resK X rs st K = some r →
 ∃ vs vs', K vs = some r /\ VRs ι vs vs' /\ (rs.mapM (resG a.tmps)).run P w = .ok vs' w
 | [], K, hr => ⟨[], [], hr, .nil, by simp⟩
 | .tmp t :: l, K, hr => by
   simp only [resK] at hr
   split at hr
   ·rename_i v hv
    obtain ⟨vs, vs', h1, h2, h3⟩ := resK_run hX h hr
    have he := h.env t _ hv
    cases he with
    | val he =>
      refine ⟨v :: vs, a.tmps.getD t undef :: vs', h1, .cons he h2, ?_⟩
      simp [List.mapM_cons, resG, h3]
   ·cases hr
 | .cell b t :: l, K, hr => by
   simp only [resK] at hr
   split at hr
   ·rename_i ti ht
    have hti := hX.tab _ _ ht
    split at hr
    ·rename_i k hk
     split at hr
     ·rename_i cs hcs
      split at hr
      ·rename_i hlen
       have hlen := Nat.eq_of_beq_eq_true hlen
       have he := h.env b _ hk
       have hb : a.tmps.getD b undef = .pointer (some ⟨ρ k, 0, none⟩) := by
        have : a.eval (.tmp b) = a.tmps.getD b undef := rfl
        rw [this] at he
        generalize a.tmps.getD b undef = q at *
        cases he; rfl
       obtain ⟨A, el, fr, hblk, hsz, hn, hc⟩ := (h.loc k cs hcs).1
       split at hr
       ·rename_i hag
        obtain ⟨vs, vs', h1, h2, h3⟩ := resK_run hX h hr
        have hcut : cut cs 0 ti.size = some cs := by
         rw [<- hlen]; simp [cut]
        obtain ⟨v', hv', hvr⟩ := loadVar_run hti (off := 0) (off' := 0) (v := .agg cs.toArray) hblk hc (by simp [loadP, hag, hcut])
        refine ⟨.agg cs.toArray :: vs, v' :: vs', h1, .cons hvr h2, ?_⟩
        simp only [Nat.add_zero] at hv'
        simp [List.mapM_cons, resG, hb, asAddr, hv', h3]
       ·rename_i hag
        have hcase : ∃ v, cs = [v] /\ (resK X l st fun vs => K (v :: vs)) = some r := by
         split at hr
         ·exact ⟨_, rfl, hr⟩
         ·cases hr
        obtain ⟨v, rfl, hr⟩ := hcase
        obtain ⟨vs, vs', h1, h2, h3⟩ := resK_run hX h hr
        obtain ⟨v', hv', hvr⟩ := loadVar_run hti (off := 0) (off' := 0) (v := v) hblk hc (by simp [loadP, hag])
        refine ⟨v :: vs, v' :: vs', h1, .cons hvr h2, ?_⟩
        simp only [Nat.add_zero] at hv'
        simp [List.mapM_cons, resG, hb, asAddr, hv', h3]
      ·cases hr
     ·cases hr
    ·rename_i p hp
     obtain ⟨v, hv, hr⟩ := bind_some' hr
     obtain ⟨vs, vs', h1, h2, h3⟩ := resK_run hX h hr
     have he := h.env b _ hp
     unfold hLoad at hv
     split at hv
     ·rename_i bb off
      cases e : blkAt st.hp bb with
      | none => rw [e] at hv; cases hv
      | some q =>
        rw [e] at hv
        simp only [Option.bind_some] at hv
        have : a.eval (.tmp b) = a.tmps.getD b undef := rfl
        rw [this] at he
        generalize hq : a.tmps.getD b undef = y at *
        cases he with
        | val he =>
          cases he with
          | @ptr _ _ z hz =>
            obtain ⟨cs, el, fr, hb', hzz, hlen, hc, _⟩ := h.rel.ok _ _ _ hz e
            obtain ⟨v', hv', hr'⟩ := loadVar_run hti (off := z.off) (off' := off) (v := v) hb' hc (by rw [<- hv]; unfold loadP; cases ti.agg <;> rfl)
            refine ⟨v :: vs, v' :: vs', h1, .cons hr' h2, ?_⟩
            simp [List.mapM_cons, resG, hq, asAddr, hv', h3]
     ·cases hv
    ·cases hr
   ·cases hr
theorem one_VR {ι : Inj} {vs vs' : List Value} (h : VRs ι vs vs') : VR ι (one vs) (if h : vs'.toArray.size = 1 then vs'.toArray[0] else .tuple vs'.toArray) := by
 have hl := h.length
 match vs, vs', h with
 | [v], [v'], .cons hv .nil => simpa [one] using hv
 | [], [], .nil => simp [one]; exact .tuple rfl (fun i v v' e => by simp at e)
 | v :: u :: vs, v' :: u' :: vs', h =>
   simp only [one]
   rw [dif_neg (by simp)]
   refine .tuple (by have := h.length; simpa using this) fun i x x' e e' => ?_
   obtain ⟨q, hq, hv⟩ := h.get (i := i) (v := x) (by simpa using e)
   have : (v' :: u' :: vs')[i]? = some x' := by simpa using e'
   rw [this] at hq; cases hq; exact hv
theorem look_argsE : ∀ {vs : List Value} {i t : Nat} {e : EV}, look (argsE i vs) t = some e -> ∃ j v, t = i + j /\ vs[j]? = some v /\ e = .val v
 | [], i, t, e, h => by simp [argsE, look] at h
 | v :: vs, i, t, e, h => by
   simp only [argsE, look_cons] at h
   split at h
   ·rename_i ht; cases h; exact ⟨0, v, by omega, by simp, rfl⟩
   ·obtain ⟨j, u, h1, h2, h3⟩ := look_argsE h
    exact ⟨j + 1, u, by omega, by simpa using h2, h3⟩
theorem bodyK_sound {P : Program} {X : Ctx} (hX : XOk P X) (hl : LpOk X.lp) (hD : DrawnOk P X) {f : FuncId} (hfn : ∀ fn, X.fn f = some fn -> P.funcs[f]? = some fn /\ (fn.name == "runtime.NumGoroutine") = false) {args : List Value} {hp : Heap} {r : Value} {hp' : Heap}
 (h : bodyK X f args hp = some (r, hp')) : Enters P f /\ SzKeep hp hp' /\ ∀ ι w B (args' : Array Value), Rel X.ng ι hp w B -> VRs ι args args'.toList →
  Calls P f args' w fun e w' => ∃ ι' r', e = .returned r' /\ ExtN hp.length ι ι' /\ Rel X.ng ι' hp' w' B /\ Fr ι hp w w' /\ Own ι hp w ι' hp' /\ VR ι' r r' := by
 unfold bodyK at h
 split at h
 ·cases h
 ·rename_i fn hf
  obtain ⟨hPf, hname⟩ := hfn fn hf
  split at h
  ·cases h
  ·rename_i c hc
   split at h
   ·rename_i hd
    have hend : ∀ (e : Exit) (st' : St), (match e with | .normal | .ret => resK X fn.results.toList st' fun vs => some (one vs, st'.hp) | _ => none) = some (r, hp') -> ∃ vs, (e = .normal ∨ e = .ret) /\ st'.hp = hp' /\ r = one vs /\ resK X fn.results.toList st' (fun us => some us) = some vs := by
     intro e st' he
     have aux : ∀ {rs : List ResultVar} {K : List Value -> Option (Value × Heap)} {z : Value × Heap}, resK X rs st' K = some z -> ∃ vs, K vs = some z /\ ∀ {R : Type} {K' : List Value -> Option R}, resK X rs st' K' = K' vs := by
      intro rs
      induction rs with
      | nil => intro K z hk; exact ⟨[], hk, rfl⟩
      | cons x rs ih =>
        intro K z hk
        cases x with
        | tmp t =>
          simp only [resK] at hk
          split at hk
          ·rename_i v hv
           obtain ⟨vs, h1, h2⟩ := ih hk
           exact ⟨v :: vs, h1, by intro R K'; simp only [resK, hv]; exact h2⟩
          ·cases hk
        | cell b t =>
          simp only [resK] at hk
          split at hk
          ·rename_i ti ht
           split at hk
           ·rename_i k hk'
            split at hk
            ·rename_i cs hcs
             split at hk
             ·rename_i hlen
              split at hk
              ·rename_i hag
               obtain ⟨vs, h1, h2⟩ := ih hk
               exact ⟨_ :: vs, h1, by intro R K'; simp only [resK, ht, hk', hcs, hlen, hag]; exact h2⟩
              ·rename_i hag
               split at hk
               ·obtain ⟨vs, h1, h2⟩ := ih hk
                exact ⟨_ :: vs, h1, by intro R K'; simp only [resK, ht, hk', hcs, hlen, hag]; exact h2⟩
               ·cases hk
             ·cases hk
            ·cases hk
           ·rename_i p hp
            obtain ⟨v, hv, hk⟩ := bind_some' hk
            obtain ⟨vs, h1, h2⟩ := ih hk
            exact ⟨v :: vs, h1, by intro R K'; simp only [resK, ht, hp, hv, Option.bind_some]; exact h2⟩
           ·cases hk
          ·cases hk
     cases e <;> first | (cases he; done) | skip
     all_goals
      obtain ⟨vs, h1, h2⟩ := aux he
      cases h1
      exact ⟨vs, by simp, rfl, rfl, h2⟩
    refine ⟨⟨fn, hPf, hname, by simp [hc]⟩, ?_, fun ι w B args' hR hargs => ?_⟩
    ·obtain ⟨e, st', h1, h2⟩ := codeK_sz hX hl c h
     obtain ⟨vs, _, h3, _⟩ := hend e st' h1
     rw [<- h3]; exact h2
    ·have hlen : args'.size = args.length := by have := hargs.length; simpa using this.symm
     refine calls_of_wp hPf hc ?_
     have hinit : SRel X ⟨ι, hp, w, B⟩ ι (fun _ => 0) ⟨argsE 0 args, [], hp⟩ { tmps := args' ++ Array.replicate (fn.ntmps - args'.size) undef, defers := [] } w := by
      refine ⟨fun t e ht => ?_, fun t k d ht => ?_, fun k c hk => by simp [look] at hk, fun k k' c c' hk => by simp [look] at hk, fun k c b x q hk => by simp [look] at hk, hR, ⟨fun _ _ => rfl, SzKeep.refl _, Fr.refl _ _ _, fun b x q hb hq _ => ⟨b, x, q, hb, hq, Or.inl rfl, id, rfl⟩⟩, rfl⟩
      ·obtain ⟨j, v, rfl, hj, rfl⟩ := look_argsE ht
       obtain ⟨u, hu, hv⟩ := hargs.get hj
       refine .val ?_
       have hu' : args'[j]? = some u := by simpa using hu
       have hjl : j < args'.size := (Array.getElem?_eq_some_iff.1 hu').1
       have : ({ tmps := args' ++ Array.replicate (fn.ntmps - args'.size) undef, defers := [] } : Act).eval (.tmp (0 + j)) = u := by
        simp only [Act.eval, Nat.zero_add, Array.getD_eq_getD_getElem?]
        rw [Array.getElem?_append_left hjl, hu']; rfl
       rw [this]; exact hv
      ·obtain ⟨j, v, _, _, h⟩ := look_argsE ht
       cases h
     refine codeK_sound hX hl hD c h hinit hd (by simp; omega) fun e st' ι' ρ' a' w' k1 k2 k3 => ?_
     obtain ⟨vs, he, h3, rfl, hres⟩ := hend e st' k1
     obtain ⟨us, us', g1, g2, g3⟩ := resK_run hX k2 hres
     cases g1
     have hrun : (results fn a'.tmps).run P w' = .ok (if h : us'.toArray.size = 1 then us'.toArray[0] else .tuple us'.toArray) w' := by
      rw [results_eq]
      have : (fn.results.mapM (resG a'.tmps)).run P w' = .ok us'.toArray w' := by
       rw [Array.mapM_eq_mapM_toList]
       simp [g3]
      simp [this]
     have hR' : (∃ ι'' r', Ending.returned (if h : us'.toArray.size = 1 then us'.toArray[0] else .tuple us'.toArray) = .returned r' /\ ExtN hp.length ι ι'' /\ Rel X.ng ι'' hp' w' B /\ Fr ι hp w w' /\ Own ι hp w ι'' hp' /\ VR ι'' (one vs) r') :=
      ⟨ι', _, rfl, k2.cum.ext, by rw [<- h3]; exact k2.rel, k2.cum.fr, by rw [<- h3]; exact k2.cum.own, one_VR g2⟩
     rcases he with rfl | rfl
     ·exact bodyPost_end hrun k2.defers hR'
     ·exact bodyPost_ret hrun k2.defers hR'
   ·cases h
end Go.AM
