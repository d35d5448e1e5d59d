/- The abstract machine, and what it says of real memory: operations without an effect are sound; no condition. -/
import GoSem.Core.Region
import GoSem.Machine.Frame
import Derived.RangeFuncLeaves
import Derived.Laws.World
import Derived.RangeFuncSeq
import Derived.Laws.Cells
import Derived.Laws.IdiomCopy
import Derived.Laws.Tables
import Derived.Laws.MakeOwn
import Derived.Laws.BytesString
import Derived.Laws.Small
/-
  THE ABSTRACT MACHINE (AM): a deterministic interpreter over a given program's code: no tape, no capacities, no draws. A slice is an immutable list of values ('vs') or an owned mutable row ('rs'). This text holds definitions alone; its soundness is proved in the texts behind it.
-/
namespace Go.AM

/-- A value: no address of real memory in it. 'bad': a value that nobody may look at. -/
inductive AV where
  | bad
  | bool (b : Bool)
  | int (k : IntKind) (n : Int)
  | str (s : List UInt8)
  | ptr (b o : Nat)
  | vptr (cs : List AV) (o : Nat)
  | nilptr
  | nils
  | vs (xs : List AV) (tok : Option Nat)
  | rs (b o len : Nat) (e : Nat)
  | map (r : Option Nat)
  | iter (b : Nat)
  | func (fn : Fn) (first captured : List AV)
  | nilFunc
  | iface (t : Nat) (v : AV)
  | nilIface
  | agg (cs : List AV)
  | tuple (vs : List AV)

instance : Inhabited AV := ⟨.bad⟩

/-- A deferred call, or the mark of a range over a function. -/
inductive ADef where
  | coll (d : Nat)
  | call (fn : Fn) (cap args : List AV)

/-- The record of a range over a function. -/
structure ALoop where
  s : LoopState
  pend : Option Code
  f : Nat
  env : Nat → AV
  nt : Nat
  mu : Bool
  ps : List Nat
  asg : Code
  body : Code
  dq : Nat

inductive AB where
  | cells (cs : List AV)
  | map (es : List (AV × AV))
  | loop (l : ALoop)
  | defq
  | tok (sz : Nat)
  | siter (s : List UInt8) (pos : Nat)
  | dead

structure Heap where
  next : Nat
  blk : Nat → AB

def Heap.empty : Heap := ⟨0, fun _ => .dead⟩
def Heap.set (H : Heap) (b : Nat) (x : AB) : Heap := ⟨H.next, fun j => if j = b then x else H.blk j⟩
def Heap.new (H : Heap) (x : AB) : Heap := ⟨H.next + 1, fun j => if j = H.next then x else H.blk j⟩

inductive TK where
  | bool | int (k : IntKind) | str | ptr (e : Nat) | slice (e : Nat) | arr (n e : Nat) | map (k e : Nat) | struct (fs : List (Nat × Nat)) | func | iface | other

/-- What is known of a type: its kind; cells; bytes; whether it is a struct or an array; its zero; whether '==' goes by plain parts. -/
structure TI where
  k : TK
  size : Nat
  bytes : Nat
  agg : Bool
  zero : AV
  eqp : Bool

/-- A stage of a region that draws its order: operations without an effect; the one with an effect; what is looked at again behind it. -/
structure Stg where
  ns : List Nat
  e : Option Nat
  re : List Nat

structure Ctx where
  ti : Nat → Option TI
  fn : Nat → Option Func
  glob : Nat → Option (List AV)
  sch : Nat → Nat → Option (List Stg)
  pu : Nat → Bool
  mu : Nat → Bool
  fr : Nat → Bool

/-! ### Looks -/
def AB.cells? : AB → Option (List AV) | .cells cs => some cs | _ => none
def AB.map? : AB → Option (List (AV × AV)) | .map es => some es | _ => none
def AB.loop? : AB → Option ALoop | .loop l => some l | _ => none
def TI.slice? (i : TI) : Option Nat := match i.k with | .slice e => some e | _ => none
def TI.map? (i : TI) : Option (Nat × Nat) := match i.k with | .map k e => some (k, e) | _ => none
def TI.struct? (i : TI) : Option (List (Nat × Nat)) := match i.k with | .struct fs => some fs | _ => none
def TI.isRow (i : TI) : Bool := match i.k with | .str => true | .slice _ => true | _ => false
def TI.isStr (i : TI) : Bool := match i.k with | .str => true | _ => false
def TI.isIface (i : TI) : Bool := match i.k with | .iface => true | _ => false
def natOf : AV → Option Nat | .int _ (.ofNat n) => some n | _ => none
def orFail (b : Bool) : Option Unit := if b then some () else none

/-! ### Numbers and strings -/
def bitsOp (op : BinOp) (k : IntKind) (x y : Int) : Option Int :=
  match op with
  | .and => some (k.wrap (BitVec.ofInt k.bits x &&& BitVec.ofInt k.bits y).toNat)
  | .or => some (k.wrap (BitVec.ofInt k.bits x ||| BitVec.ofInt k.bits y).toNat)
  | .xor => some (k.wrap (BitVec.ofInt k.bits x ^^^ BitVec.ofInt k.bits y).toNat)
  | .andNot => some (k.wrap (BitVec.ofInt k.bits x &&& ~~~ BitVec.ofInt k.bits y).toNat)
  | _ => none

def arith (op : BinOp) (k : IntKind) (x y : Int) : Option AV :=
  match op with
  | .add => some (.int k (k.wrap (x + y)))
  | .sub => some (.int k (k.wrap (x - y)))
  | .mul => some (.int k (k.wrap (x * y)))
  | .quo => if y = 0 then none else some (.int k (k.wrap (x.tdiv y)))
  | .rem => if y = 0 then none else some (.int k (x.tmod y))
  | .eql => some (.bool (x == y))
  | .neq => some (.bool (x != y))
  | .lss => some (.bool (x < y))
  | .leq => some (.bool (x ≤ y))
  | .gtr => some (.bool (x > y))
  | .geq => some (.bool (x ≥ y))
  | .shl => if y < 0 then none else some (.int k (k.wrap (x * 2 ^ (min y.toNat k.bits))))
  | .shr => if y < 0 then none else some (.int k (x.fdiv (2 ^ (min y.toNat k.bits))))
  | op => (bitsOp op k x y).map (.int k)

def less : List UInt8 → List UInt8 → Bool
  | _, [] => false
  | [], _ :: _ => true
  | a :: x, b :: y => a < b || (a == b && less x y)

def strOp (op : BinOp) (x y : List UInt8) : Option AV :=
  match op with
  | .add => if x.length + y.length < 1099511627776 then some (.str (x ++ y)) else none
  | .eql => some (.bool (x == y))
  | .neq => some (.bool (x != y))
  | .lss => some (.bool (less x y))
  | .leq => some (.bool (less x y || x == y))
  | .gtr => some (.bool !(less x y || x == y))
  | .geq => some (.bool !(less x y))
  | _ => none

/-! ### Values -/
def cellsOf : AV → List AV
  | .agg cs => cs
  | v => [v]

/-- Can it stand in one cell? -/
def one : AV → Bool
  | .bad | .agg _ | .tuple _ => false
  | _ => true

/-- Can it be laid into cells? -/
def stor : AV → Bool
  | .bad | .tuple _ => false
  | _ => true

/-- Equality of two plain values (bools, numbers of a kind, strings). -/
def eqS : AV → AV → Option Bool
  | .bool a, .bool b => some (a == b)
  | .int k a, .int k' b => if k = k' then some (a == b) else none
  | .str a, .str b => some (a == b)
  | _, _ => none

def eqSs : List AV → List AV → Option Bool
  | [], [] => some true
  | x :: xs, y :: ys => (eqS x y).bind fun b => (eqSs xs ys).map fun c => b && c
  | _, _ => none

/-- Of the same make: bools, numbers, strings. -/
def shapeL : List AV → List AV → Bool
  | [], [] => true
  | .bool _ :: xs, .bool _ :: ys => shapeL xs ys
  | .int _ _ :: xs, .int _ _ :: ys => shapeL xs ys
  | .str _ :: xs, .str _ :: ys => shapeL xs ys
  | _, _ => false

def shapeOk (i : TI) (a : List AV) : Bool :=
  match i.zero with
  | .agg z => shapeL z a
  | _ => false

def isConst : Operand → Bool
  | .const _ => true
  | _ => false

/-- '==' at a type. -/
def eqlV (C : Ctx) (t : Nat) (cx : Bool) (x y : AV) : Option Bool :=
  (C.ti t).bind fun i => match i.k, x, y with
  | .bool, .bool a, .bool b => some (a == b)
  | .struct _, .agg a, .agg b => if i.eqp && shapeOk i a then eqSs a b else none
  | .arr _ _, .agg a, .agg b => if i.eqp && shapeOk i a then eqSs a b else none
  | .iface, .nilIface, .nilIface => if cx then some true else none
  | .iface, .iface _ _, .nilIface => some false
  | .iface, .nilIface, .iface _ _ => some false
  | .iface, .iface a x, .iface b y => if a ≠ b then some false else (C.ti a).bind fun j => match j.k, x, y with
    | .int _, .int k m, .int k' n => if k = k' then some (m == n) else none
    | .str, .str m, .str n => some (m == n)
    | .bool, .bool m, .bool n => some (m == n)
    | _, _, _ => none
  | .ptr _, .nilptr, .nilptr => some true
  | .ptr _, .nilptr, .ptr _ _ => some false
  | .ptr _, .ptr _ _, .nilptr => some false
  | .slice _, .nils, .nils => some true
  | .slice _, .nils, .vs _ _ => some false
  | .slice _, .nils, .rs _ _ _ _ => some false
  | .slice _, .vs _ _, .nils => some false
  | .slice _, .rs _ _ _ _, .nils => some false
  | .map _ _, .map none, .map none => some true
  | .map _ _, .map none, .map (some _) => some false
  | .map _ _, .map (some _), .map none => some false
  | .func, .nilFunc, .nilFunc => some true
  | .func, .nilFunc, .func _ _ _ => some false
  | .func, .func _ _ _, .nilFunc => some false
  | _, _, _ => none

def isShift : BinOp → Bool
  | .shl | .shr => true
  | _ => false

def binV (C : Ctx) (op : BinOp) (t : Nat) (cx : Bool) (x y : AV) : Option AV :=
  match x, y with
  | .int k a, .int k' b => if isShift op || k = k' then arith op k a b else none
  | .str a, .str b => strOp op a b
  | x, y => match op with
    | .eql => (eqlV C t cx x y).map .bool
    | .neq => (eqlV C t cx x y).map fun b => .bool (!b)
    | _ => none

def unV (op : UnOp) (x : AV) : Option AV :=
  match op, x with
  | .neg, .int k n => some (.int k (k.wrap (0 - n)))
  | .not, .bool b => some (.bool (!b))
  | .xor, .int k n => (bitsOp .xor k (if k.signed then -1 else k.max) n).map (.int k)
  | _, _ => none

/-- A constant. -/
def ofConst (v : Value) : AV :=
  match v with
  | .bool b => .bool b
  | .int k n => .int k n
  | .string s => .str s.data.toList
  | .pointer none => .nilptr
  | .slice none 0 0 => .nils
  | .map none => .map none
  | .nilFunc => .nilFunc
  | .nilIface => .nilIface
  | _ => .bad

def ev (C : Ctx) (env : Nat → AV) (x : Operand) : AV :=
  match x with
  | .tmp t => env t
  | .const v => ofConst v
  | .global g => match C.glob g with | some cs => .vptr cs 0 | none => .bad
  | .func f => .func (.func f) [] []

/-! ### Memory -/
/-- n things from place o on; none if there are not as many. -/
def sub {α : Type} (cs : List α) (o n : Nat) : Option (List α) := if o + n ≤ cs.length then some ((cs.drop o).take n) else none

def loadL (i : TI) (cs : List AV) (o : Nat) : Option AV := if i.agg then (sub cs o i.size).map .agg else cs[o]?

def loadA (C : Ctx) (t : Nat) (p : AV) (H : Heap) : Option AV :=
  (C.ti t).bind fun i => match p with
  | .ptr b o => (H.blk b).cells?.bind fun cs => loadL i cs o
  | .vptr cs o => loadL i cs o
  | _ => none

/-- The list with vs laid over its places from o on; none if it has not as many. -/
def splice {α : Type} (cs : List α) (o : Nat) (vs : List α) : Option (List α) :=
  if o + vs.length ≤ cs.length then some (cs.take o ++ vs ++ cs.drop (o + vs.length)) else none

/-- Parts laid into cells: of each part where it goes and how many cells it has. -/
def fillA (place : Nat → Option (Nat × Nat)) : List AV → List (Nat × AV) → Option (List AV)
  | cells, [] => some cells
  | cells, (i, v) :: rest => (place i).bind fun p =>
    if stor v && (cellsOf v).length = p.2 then (splice cells p.1 (cellsOf v)).bind fun cs => fillA place cs rest else none

def sizeT (C : Ctx) (t : Nat) : Option Nat := (C.ti t).map (·.size)

def placeS (C : Ctx) (fs : List (Nat × Nat)) (i : Nat) : Option (Nat × Nat) :=
  (fs[i]?).bind fun f => (sizeT C f.2).map fun s => (f.1, s)

def buildA (C : Ctx) (t : Nat) (parts : List (Nat × AV)) : Option AV :=
  (C.ti t).bind fun i => match i.k, i.zero with
  | .struct fs, .agg z => (fillA (placeS C fs) z parts).map .agg
  | .arr _ e, .agg z => (sizeT C e).bind fun s => (fillA (fun i => some (i * s, s)) z parts).map .agg
  | _, _ => none

/-- Elements laid over others: each at its place, each of so many cells. -/
def fillE (size : Nat) : List AV → List (Nat × AV) → Option (List AV)
  | xs, [] => some xs
  | xs, (i, v) :: rest => if stor v && (cellsOf v).length = size then (splice xs i [v]).bind fun xs => fillE size xs rest else none

def flatA (xs : List AV) : List AV := xs.flatMap cellsOf

/-- A row of cells as elements. -/
def chunkA (i : TI) : Nat → List AV → Option (List AV)
  | 0, _ => some []
  | n + 1, cs => (loadL i cs 0).bind fun x => (chunkA i n (cs.drop i.size)).map (x :: ·)

/-- What an operation without an effect comes to: a value; or a new block, and the value by the block's number. -/
inductive NR where
  | v (a : AV)
  | new (f : Nat → AV) (x : AB)

def sound (i : TI) : Bool := stor i.zero && (cellsOf i.zero).length == i.size && 0 < i.size

def buildSliceA (C : Ctx) (mu : Bool) (t len : Nat) (parts : List (Nat × AV)) : Option NR :=
  (C.ti t).bind fun i => i.slice?.bind fun e => (C.ti e).bind fun j =>
  if sound j && len * j.size < 16777216 then
    (fillE j.size (List.replicate len j.zero) parts).map fun xs =>
      if mu then .new (fun b => .rs b 0 len e) (.cells (flatA xs)) else .new (fun b => .vs xs (some b)) (.tok j.size)
  else none

def lim : Nat := 1099511627776

def makeSliceA (C : Ctx) (mu : Bool) (t : Nat) (l c : AV) : Option NR :=
  (C.ti t).bind fun i => i.slice?.bind fun e => (C.ti e).bind fun j => (natOf l).bind fun l => (natOf c).bind fun c =>
  if sound j && l ≤ c && (c * (j.bytes + 1) < lim) then
    some (if mu then .new (fun b => .rs b 0 l e) (.cells (flatA (List.replicate c j.zero))) else .new (fun b => .vs (List.replicate l j.zero) (some b)) (.tok j.size))
  else none

def addPtr (p : AV) (n : Nat) : Option AV :=
  match p with
  | .ptr b o => some (.ptr b (o + n))
  | .vptr cs o => some (.vptr cs (o + n))
  | _ => none

def fieldAddrA (C : Ctx) (t : Nat) (p : AV) (f : Nat) : Option AV :=
  (C.ti t).bind fun i => i.struct?.bind fun fs => (placeS C fs f).bind fun q => if q.2 = 0 then none else addPtr p q.1

def fieldA (C : Ctx) (t : Nat) (x : AV) (f : Nat) : Option AV :=
  (C.ti t).bind fun i => i.struct?.bind fun fs => match x with
  | .agg cs => (fs[f]?).bind fun q => (C.ti q.2).bind fun j => loadL j cs q.1
  | _ => none

def indexAddrA (C : Ctx) (t : Nat) (x ix : AV) : Option AV :=
  (natOf ix).bind fun n => (C.ti t).bind fun i => match i.k, x with
  | .arr len e, p => (sizeT C e).bind fun s => if n < len then addPtr p (n * s) else none
  | .slice e, .vs xs _ => (sizeT C e).bind fun s => (xs[n]?).bind fun y => if (cellsOf y).length = s then some (.vptr (cellsOf y) 0) else none
  | .slice e, .rs b o len _ => (sizeT C e).bind fun s => if n < len then some (.ptr b (o + n * s)) else none
  | _, _ => none

def indexA (C : Ctx) (t : Nat) (x ix : AV) : Option AV :=
  (natOf ix).bind fun n => (C.ti t).bind fun i => match i.k, x with
  | .arr len e, .agg cs => (C.ti e).bind fun j => if n < len then loadL j cs (n * j.size) else none
  | .str, .str s => (s[n]?).map fun c => .int .u8 c.toNat
  | _, _ => none

def boundOf (o : Option AV) (d : Nat) : Option Nat := match o with | none => some d | some v => natOf v

def headSize (xs : List AV) (s : Nat) : Bool :=
  match xs with
  | [] => true
  | x :: _ => (cellsOf x).length == s

def sliceA (C : Ctx) (t : Nat) (x : AV) (lo hi mx : Option AV) (H : Heap) : Option NR :=
  (C.ti t).bind fun i => match i.k, x with
  | .str, .str s => (boundOf lo 0).bind fun l => (boundOf hi s.length).bind fun h =>
    if mx.isNone && l ≤ h && h ≤ s.length then some (.v (.str ((s.drop l).take (h - l)))) else none
  | .slice e, .nils => (boundOf lo 0).bind fun l => (boundOf hi 0).bind fun h => (sizeT C e).bind fun _ => if mx.isNone && l = 0 && h = 0 then some (.v .nils) else none
  | .slice e, .vs xs tok => (boundOf lo 0).bind fun l => (boundOf hi xs.length).bind fun h => (sizeT C e).bind fun s =>
    if l ≤ h && h ≤ xs.length && headSize xs s then
      match mx with
      | none => some (.v (if l = 0 && h = xs.length then .vs xs tok else .vs ((xs.drop l).take (h - l)) none))
      | some m => (natOf m).bind fun m => if hi.isSome && m = h && l < h then some (.new (fun b => .vs ((xs.drop l).take (h - l)) (some b)) (.tok s))
        else if hi.isSome && m = h then some (.v (.vs [] none)) else none
    else none
  | .slice e, .rs b o len e' => (boundOf lo 0).bind fun l => (boundOf hi len).bind fun h => (sizeT C e).bind fun s =>
    if mx.isNone && l ≤ h && h ≤ len && e' = e then
      some (.v (if l = 0 then .rs b o h e' else if l = h then .vs [] none else .rs b (o + l * s) (h - l) e'))
    else none
  | .arr n e, .ptr b o => (boundOf lo 0).bind fun l => (boundOf hi n).bind fun h => (sizeT C e).bind fun s => (H.blk b).cells?.bind fun cs =>
    if mx.isNone && l < h && h ≤ n && o + n * s ≤ cs.length then some (.v (.rs b (o + l * s) (h - l) e)) else none
  | _, _ => none

/-- Equality of two plain keys. -/
def eqKey (x y : AV) : Option Bool :=
  match x, y with
  | .agg a, .agg b => eqSs a b
  | .agg _, _ => none
  | x, y => eqS x y

def findK (k : AV) : List (AV × AV) → Option (Option AV)
  | [] => some none
  | e :: es => (eqKey k e.1).bind fun b => if b then some (some e.2) else findK k es

def putK (k v : AV) : List (AV × AV) → Option (List (AV × AV))
  | [] => some [(k, v)]
  | e :: es => (eqKey k e.1).bind fun b => if b then some ((k, v) :: es) else (putK k v es).map (e :: ·)

/-- The key is plain: a number, a string, a bool, or a struct of such. -/
def keyOk (C : Ctx) (t : Nat) (k : AV) : Bool :=
  match C.ti t with
  | none => false
  | some i => match i.k, k with
    | .int _, .int _ _ => true
    | .str, .str _ => true
    | .bool, .bool _ => true
    | .struct _, .agg a => i.eqp && shapeOk i a && (eqSs a a).getD false
    | _, _ => false

def mapOf (H : Heap) (m : AV) : Option (List (AV × AV)) :=
  match m with
  | .map none => some []
  | .map (some b) => (H.blk b).map?
  | _ => none

def lookupA (C : Ctx) (t : Nat) (m k : AV) (ok : Bool) (H : Heap) : Option AV :=
  (C.ti t).bind fun i => i.map?.bind fun ke => (C.ti ke.2).bind fun j => if keyOk C ke.1 k then
    (mapOf H m).bind fun es => (findK k es).map fun r =>
      let v := r.getD j.zero
      if ok then .tuple [v, .bool r.isSome] else v
  else none

def typeAssertA (C : Ctx) (x : AV) (at_ : Nat) (ok : Bool) : Option AV :=
  (C.ti at_).bind fun i => if i.isIface then none else match x with
  | .nilIface => if ok then some (.tuple [i.zero, .bool false]) else none
  | .iface t v => if t = at_ then some (if ok then .tuple [v, .bool true] else v) else if ok then some (.tuple [i.zero, .bool false]) else none
  | _ => none

def byteOf? : AV → Option UInt8
  | .int .u8 (.ofNat n) => some (UInt8.ofNat n)
  | _ => none

def bytesOf? : List AV → Option (List UInt8)
  | [] => some []
  | x :: xs => (byteOf? x).bind fun b => (bytesOf? xs).map (b :: ·)

def convA (C : Ctx) (s d : Nat) (x : AV) (H : Heap) : Option AV :=
  (C.ti s).bind fun i => (C.ti d).bind fun j => match i.k, j.k, x with
  | .int _, .int k, .int _ n => some (.int k (k.wrap n))
  | .str, .str, .str s => some (.str s)
  | .slice e, .str, x => (C.ti e).bind fun h => match h.k with
    | .int .u8 => if h.size = 1 then match x with
      | .nils => some (.str [])
      | .vs xs _ => (bytesOf? xs).map .str
      | .rs b o len _ => (H.blk b).cells?.bind fun cs => (sub cs o len).bind fun r => (bytesOf? r).map .str
      | _ => none
      else none
    | _ => none
  | _, _, _ => none

def lenA (C : Ctx) (t : Nat) (x : AV) (H : Heap) : Option AV :=
  (C.ti t).bind fun i => match i.k, x with
  | .str, .str s => some (.int .i64 s.length)
  | .slice _, .nils => some (.int .i64 0)
  | .slice _, .vs xs _ => some (.int .i64 xs.length)
  | .slice _, .rs _ _ n _ => some (.int .i64 n)
  | .map _ _, .map none => some (.int .i64 0)
  | .map _ _, .map (some b) => (H.blk b).map?.map fun es => .int .i64 es.length
  | _, _ => none

def min2A (x y : AV) : Option AV :=
  match x, y with
  | .int k a, .int _ b => some (.int k (if b < a then b else a))
  | _, _ => none
def max2A (x y : AV) : Option AV :=
  match x, y with
  | .int k a, .int _ b => some (.int k (if a < b then b else a))
  | _, _ => none

def nv (o : Option AV) : Option NR := o.map .v

/-- The operations without an effect. -/
def nop (C : Ctx) (mu : Bool) (ρ : Operand → AV) (op : Op) (H : Heap) : Option NR :=
  match op with
  | .move x | .assign x => some (.v (ρ x))
  | .pick c a b => match ρ c with | .bool t => some (.v (if t then ρ a else ρ b)) | _ => none
  | .alloc t => (C.ti t).bind fun i => if sound i then some (.new (fun b => .ptr b 0) (.cells (cellsOf i.zero))) else none
  | .box _ x => if stor (ρ x) then some (.new (fun b => .ptr b 0) (.cells (cellsOf (ρ x)))) else none
  | .build t ps => nv (buildA C t (ps.toList.map fun p => (p.1, ρ p.2)))
  | .buildSlice t n ps => buildSliceA C mu t n (ps.toList.map fun p => (p.1, ρ p.2))
  | .load t a => nv (loadA C t (ρ a) H)
  | .nilCheck x => match ρ x with
    | .ptr b o => some (.v (.ptr b o))
    | .vptr cs o => some (.v (.vptr cs o))
    | .func (.func f) a b => some (.v (.func (.func f) a b))
    | _ => none
  | .binOp op t x y _ => nv (binV C op t (isConst x || isConst y) (ρ x) (ρ y))
  | .unOp op _ x => nv (unV op (ρ x))
  | .convert s d x => nv (convA C s d (ρ x) H)
  | .makeInterface t x => (C.ti t).bind fun i => if i.isIface then none else some (.v (.iface t (ρ x)))
  | .makeFunc (.func f) a b => some (.v (.func (.func f) (a.toList.map ρ) (b.toList.map ρ)))
  | .makeMap _ none => some (.new (fun b => .map (some b)) (.map []))
  | .makeSlice t l c => makeSliceA C mu t (ρ l) (ρ c)
  | .slice t x lo hi mx => sliceA C t (ρ x) (lo.map ρ) (hi.map ρ) (mx.map ρ) H
  | .fieldAddr t x f => nv (fieldAddrA C t (ρ x) f)
  | .field t x f => nv (fieldA C t (ρ x) f)
  | .indexAddr t x i => nv (indexAddrA C t (ρ x) (ρ i))
  | .index t x i => nv (indexA C t (ρ x) (ρ i))
  | .lookup t m k ok => nv (lookupA C t (ρ m) (ρ k) ok H)
  | .typeAssert x _ a ok => nv (typeAssertA C (ρ x) a ok)
  | .extract x i => match ρ x with | .tuple vs => nv (vs[i]?) | _ => none
  | .range t x => (C.ti t).bind fun i => if i.isStr then match ρ x with | .str s => some (.new (fun b => .iter b) (.siter s 0)) | _ => none else none
  | .call ⟨.builtin .len, args, ts⟩ => match args.toList, ts.toList with | [x], t :: _ => nv (lenA C t (ρ x) H) | _, _ => none
  | .call ⟨.builtin .min, args, _⟩ => match args.toList with | [x, y] => nv (min2A (ρ x) (ρ y)) | _ => none
  | .call ⟨.builtin .max, args, _⟩ => match args.toList with | [x, y] => nv (max2A (ρ x) (ρ y)) | _ => none
  | _ => none

/-- Is it an operation with an effect? -/
def isEff (op : Op) : Bool :=
  match op with
  | .store _ _ _ | .mapUpdate _ _ _ _ | .insert _ _ _ _ | .panic _ | .defer _ | .next _ _ => true
  | .call ⟨.builtin .len, _, _⟩ | .call ⟨.builtin .min, _, _⟩ | .call ⟨.builtin .max, _, _⟩ => false
  | .call _ => true
  | _ => false

/-! ### Effects -/
def storeA (C : Ctx) (t : Nat) (p v : AV) (H : Heap) : Option Heap :=
  (sizeT C t).bind fun s => match p with
  | .ptr b o => if stor v && (cellsOf v).length = s then (H.blk b).cells?.bind fun cs => (splice cs o (cellsOf v)).map fun cs => H.set b (.cells cs) else none
  | _ => none

def mapUpdateA (C : Ctx) (t : Nat) (m k v : AV) (H : Heap) : Option Heap :=
  (C.ti t).bind fun i => i.map?.bind fun ke => match m with
  | .map (some b) => if keyOk C ke.1 k then (H.blk b).map?.bind fun es => (putK k v es).map fun es => H.set b (.map es) else none
  | _ => none

/-- The elements that an append hands over. -/
def elemsA (i : TI) (x : AV) (H : Heap) : Option (List AV) :=
  match x with
  | .nils => some []
  | .vs ys _ => some ys
  | .rs b o n _ => (H.blk b).cells?.bind fun cs => chunkA i n (cs.drop o)
  | .str s => match i.k with | .int .u8 => some (s.map fun c => .int .u8 c.toNat) | _ => none
  | _ => none

def appendTo (mu : Bool) (e : Nat) (i : TI) (s : AV) (ys : List AV) (H : Heap) : Option (AV × Heap) :=
  match s with
  | .nils => if ys.length * (i.bytes + 1) < lim then
      some (if mu then (.rs H.next 0 ys.length e, H.new (.cells (flatA ys))) else (.vs ys (some H.next), H.new (.tok i.size))) else none
  | .vs xs (some k) => match H.blk k with
    | .tok s => if s = i.size && (xs.length + ys.length) * (i.bytes + 1) < lim then some (.vs (xs ++ ys) (some H.next), (H.set k .dead).new (.tok i.size)) else none
    | _ => none
  | .rs b o n e' => if e' = e && (n + ys.length) * (i.bytes + 1) < lim then
      (H.blk b).cells?.bind fun cs => (sub cs o (n * i.size)).map fun old => (.rs H.next 0 (n + ys.length) e, (H.set b .dead).new (.cells (old ++ flatA ys))) else none
  | _ => none

def appendA (C : Ctx) (mu : Bool) (t t2 : Nat) (s x : AV) (H : Heap) : Option (AV × Heap) :=
  (C.ti t).bind fun i => i.slice?.bind fun e => (C.ti t2).bind fun i2 => if !i2.isRow then none else (C.ti e).bind fun j => (elemsA j x H).bind fun ys =>
    if ys.isEmpty then (match s with | .nils | .vs _ _ | .rs _ _ _ _ => some (s, H) | _ => none)
    else if headSize ys j.size && sound j then appendTo mu e j s ys H else none

def clearA (C : Ctx) (t : Nat) (x : AV) (H : Heap) : Option Heap :=
  (C.ti t).bind fun i => i.slice?.bind fun e => (C.ti e).bind fun j => match x with
  | .nils => some H
  | .vs [] _ => some H
  | .rs b o n _ => if sound j then (H.blk b).cells?.bind fun cs => (splice cs o (flatA (List.replicate n j.zero))).map fun cs => H.set b (.cells cs) else none
  | _ => none

/-! ### Freezing: a value made plain: tokens struck, owned rows taken out of the heap and made lists. -/
def frzL (f : AV → Heap → Option (AV × Heap)) : List AV → Heap → Option (List AV × Heap)
  | [], H => some ([], H)
  | x :: xs, H => (f x H).bind fun r => (frzL f xs r.2).map fun q => (r.1 :: q.1, q.2)

def frz (C : Ctx) : Nat → AV → Heap → Option (AV × Heap)
  | 0, _, _ => none
  | n + 1, v, H => match v with
    | .bad => none
    | .ptr _ _ => none
    | .map (some _) => none
    | .iter _ => none
    | .func _ _ _ => none
    | .vptr _ _ => none
    | .vs xs _ => (frzL (frz C n) xs H).map fun q => (.vs q.1 none, q.2)
    | .rs b o len e => (C.ti e).bind fun i => if i.agg || i.size == 1 then (H.blk b).cells?.bind fun cs => (chunkA i len (cs.drop o)).bind fun xs =>
      (frzL (frz C n) xs (H.set b .dead)).map fun q => (.vs q.1 none, q.2) else none
    | .iface t x => (frz C n x H).map fun q => (.iface t q.1, q.2)
    | .agg cs => (frzL (frz C n) cs H).map fun q => (.agg q.1, q.2)
    | .tuple cs => (frzL (frz C n) cs H).map fun q => (.tuple q.1, q.2)
    | v => some (v, H)

/-! ### Code -/
inductive Ex where
  | normal
  | exit (id : Nat)
  | ret
  | panic (v : AV)

structure St where
  env : Nat → AV
  nt : Nat
  mu : Bool
  fn : Nat
  defs : List ADef
  hp : Heap

inductive CR where
  | ret (v : AV)
  | pan (v : AV)

/-- What code is run by: whether in a round, the code, the state. -/
abbrev Run := Option Nat → Code → St → Option (Ex × St)

def upd (env : Nat → AV) (t : Nat) (v : AV) : Nat → AV := fun j => if j = t then v else env j

def envOf (args : List AV) : Nat → AV := fun j => (args[j]?).getD .bad

def St.put (st : St) (dst : Option Nat) (v : AV) : Option St :=
  match dst with
  | none => some st
  | some d => if d < st.nt then some { st with env := upd st.env d v } else none

def resV (C : Ctx) (st : St) (r : ResultVar) : Option AV :=
  match r with
  | .tmp t => some (st.env t)
  | .cell a t => loadA C t (st.env a) st.hp

def results1 (C : Ctx) (F : Func) (st : St) : Option AV :=
  (F.results.toList.mapM (resV C st)).map fun vs => match vs with | [v] => v | vs => .tuple vs

inductive Md where
  | returning
  | panicking (v : AV)
  | recovered (v : AV)

/-- One operation of a deferred call's body that may recover: its value, the mode, the heap. -/
def dop (C : Ctx) (st : St) (u : Md) (o : Oper) : Option (AV × Md × Heap) :=
  match o.op with
  | .call ⟨.builtin .recover, _, _⟩ => match u with
    | .panicking v => some (v, .recovered v, st.hp)
    | u => some (.nilIface, u, st.hp)
  | .store t a x => (storeA C t (ev C st.env a) (ev C st.env x) st.hp).map fun H => (.tuple [], u, H)
  | op => (nop C st.mu (ev C st.env) op st.hp).map fun r => match r with
    | .v a => (a, u, st.hp)
    | .new f x => (f st.hp.next, u, st.hp.new x)

/-- Is the operation to be done? -/
def guardOk (ops : List Oper) (st : St) (o : Oper) : Option Bool :=
  match o.guard with
  | none => some true
  | some (j, w) => (ops[j]?).bind fun p => p.dst.bind fun d => match st.env d with | .bool b => some (b == w) | _ => none

def dops (C : Ctx) (all : List Oper) : List Oper → St → Md → Option (St × Md)
  | [], st, u => some (st, u)
  | o :: l, st, u => (guardOk all st o).bind fun g =>
    if g then (dop C st u o).bind fun r => (({ st with hp := r.2.2 } : St).put o.dst r.1).bind fun st => dops C all l st r.2.1
    else (st.put o.dst .bad).bind fun st => dops C all l st u

/-- The body of a deferred call. -/
def execD (C : Ctx) : Code → St → Md → Option (Ex × St × Md)
  | .skip, st, u => some (.normal, st, u)
  | .region _ ops draw, st, u => if draw then none else (dops C ops.toList ops.toList st u).map fun r => (.normal, r.1, r.2)
  | .seq a b, st, u => (execD C a st u).bind fun r => match r.1 with | .normal => execD C b r.2.1 r.2.2 | _ => some r
  | .cond c a b, st, u => match ev C st.env c with | .bool true => execD C a st u | .bool false => execD C b st u | _ => none
  | .ret, st, u => some (.ret, st, u)
  | _, _, _ => none

def frameOf (C : Ctx) (f : Nat) (F : Func) (args : List AV) (H : Heap) : St :=
  { env := envOf args, nt := F.ntmps, mu := C.mu f, fn := f, defs := [], hp := H }

/-- A deferred call: what becomes of the mode, and the heap. -/
def runDef (C : Ctx) (fn : Fn) (args : List AV) (u : Md) (H : Heap) : Option (Md × Heap) :=
  match fn with
  | .func f => (C.fn f).bind fun G => G.body.bind fun c => if args.length ≤ G.ntmps then
      (execD C c (frameOf C f G args H) u).bind fun r => match r.1 with
      | .normal | .ret => if r.2.1.defs.isEmpty then (results1 C G r.2.1).map fun _ => (match r.2.2 with | .recovered _ => .returning | u => u, r.2.1.hp) else none
      | _ => none
    else none
  | _ => none

/-- A function on its way out: its deferred calls, then its results. -/
def runDefs (C : Ctx) (F : Func) (st0 : St) : List ADef → Md → Heap → Option (CR × Heap)
  | [], u, H => match u with
    | .returning => (results1 C F { st0 with hp := H }).map fun v => (.ret v, H)
    | .recovered _ => none
    | .panicking v => some (.pan v, H)
  | d :: l, u, H => match d with
    | .coll b => match H.blk b with | .defq => runDefs C F st0 l u (H.set b .dead) | _ => none
    | .call fn cap args => (runDef C fn (args ++ cap) u H).bind fun r => runDefs C F st0 l r.1 r.2

/-- A call of a function with a body, over a heap. -/
def callB (C : Ctx) (ex : Run) (f : Nat) (args : List AV) (H : Heap) : Option (CR × Heap) :=
  (C.fn f).bind fun F => F.body.bind fun c => if args.length ≤ F.ntmps then
    (ex none c (frameOf C f F args H)).bind fun r => match r.1 with
    | .normal | .ret => runDefs C F r.2 r.2.defs .returning r.2.hp
    | .panic v => runDefs C F r.2 r.2.defs (.panicking v) r.2.hp
    | .exit _ => none
  else none

def CR.mapM (f : AV → Option (AV × Heap)) : CR → Option (CR × Heap)
  | .ret v => (f v).map fun q => (.ret q.1, q.2)
  | .pan v => (f v).map fun q => (.pan q.1, q.2)

def deep : Nat := 64

/-- A call: of a pure function over a heap of its own. -/
def callF (C : Ctx) (ex : Run) (f : Nat) (args : List AV) (H : Heap) : Option (CR × Heap) :=
  if C.pu f then
    (frzL (frz C deep) args H).bind fun q => (callB C ex f q.1 Heap.empty).bind fun r => (r.1.mapM fun v => frz C deep v r.2).map fun z => (z.1, q.2)
  else if C.fr f then (callB C ex f args H).bind fun r => r.1.mapM fun v => frz C deep v r.2
  else callB C ex f args H

def parEnv (nt : Nat) : List Nat → List AV → (Nat → AV) → Option (Nat → AV)
  | [], [], env => some env
  | p :: ps, x :: xs, env => if p < nt then parEnv nt ps xs (upd env p x) else none
  | _, _, _ => none

def endEx (e : Ex) : Option (Option Code) :=
  match e with
  | .normal => some none
  | .ret => some (some .ret)
  | .exit id => some (some (.exit id))
  | .panic _ => none

/-- One round of a range over a function. -/
def doRound (ex : Run) (l : Nat) (args : List AV) (H : Heap) : Option (CR × Heap) :=
  (H.blk l).loop?.bind fun L => if L.s = .ready then
    (parEnv L.nt L.ps args L.env).bind fun env =>
    (ex (some l) L.asg { env := env, nt := L.nt, mu := L.mu, fn := L.f, defs := [], hp := H }).bind fun r1 => match r1.1 with
    | .normal => (r1.2.hp.blk l).loop?.bind fun L1 => if L1.s = .ready then
        (ex (some l) L.body { r1.2 with hp := r1.2.hp.set l (.loop { L1 with s := .busy }) }).bind fun r2 =>
        (r2.2.hp.blk l).loop?.bind fun L2 => (endEx r2.1).bind fun p =>
        if r2.2.defs.isEmpty then some (.ret (.bool p.isNone), r2.2.hp.set l (.loop { L2 with s := if p.isNone then .ready else .done, pend := p })) else none
      else none
    | _ => none
  else none

def callV (C : Ctx) (ex : Run) (fv : AV) (args : List AV) (H : Heap) : Option (CR × Heap) :=
  match fv with
  | .func (.func f) first cap => callF C ex f (first ++ args ++ cap) H
  | .func (.yield l) [] _ => doRound ex l args H
  | _ => none

/-- A call of a function value that is no round. -/
def callW (C : Ctx) (ex : Run) (fv : AV) (args : List AV) (H : Heap) : Option (CR × Heap) :=
  match fv with
  | .func (.func f) first cap => callF C ex f (first ++ args ++ cap) H
  | _ => none

/-- What an operation with an effect comes to. -/
inductive OR where
  | val (v : AV) (H : Heap)
  | dfr (d : ADef)
  | pan (v : AV) (H : Heap)

def OR.of : CR × Heap → OR
  | (.ret v, H) => .val v H
  | (.pan v, H) => .pan v H

def eop (C : Ctx) (ex : Run) (ro : Option Nat) (st : St) (o : Oper) : Option OR :=
  match o.op with
  | .store t a x => (storeA C t (ev C st.env a) (ev C st.env x) st.hp).map (.val .bad)
  | .mapUpdate t m k x | .insert t m k x => (mapUpdateA C t (ev C st.env m) (ev C st.env k) (ev C st.env x) st.hp).map (.val .bad)
  | .panic x => match ev C st.env x with | .iface t v => some (.pan (.iface t v) st.hp) | _ => none
  | .defer ⟨.value f, args, _⟩ => match ro, ev C st.env f with
    | none, .func (.func g) first cap => some (.dfr (.call (.func g) cap (first ++ args.toList.map (ev C st.env))))
    | _, _ => none
  | .next it true => match ev C st.env it with
    | .iter b => match st.hp.blk b with
      | .siter s pos => match s[pos]? with
        | none => some (.val (.tuple [.bool false]) st.hp)
        | some c => if c < 128 then some (.val (.tuple [.bool true, .int .i64 pos, .int .i32 c.toNat]) (st.hp.set b (.siter s (pos + 1)))) else none
      | _ => none
    | _ => none
  | .call ⟨.value f, args, _⟩ => (callV C ex (ev C st.env f) (args.toList.map (ev C st.env)) st.hp).map OR.of
  | .call ⟨.builtin .append, args, ts⟩ => match args.toList, ts.toList with
    | [s, x], t :: t2 :: _ => (appendA C st.mu t t2 (ev C st.env s) (ev C st.env x) st.hp).map fun r => .val r.1 r.2
    | _, _ => none
  | .call ⟨.builtin .clear, args, ts⟩ => match args.toList, ts.toList with
    | [x], t :: _ => (clearA C t (ev C st.env x) st.hp).map (.val (.tuple []))
    | _, _ => none
  | _ => none

/-- One operation, its value put where it belongs. -/
def oneOp (C : Ctx) (ex : Run) (ro : Option Nat) (st : St) (o : Oper) (k : St → Option (Ex × St)) : Option (Ex × St) :=
  if isEff o.op then (eop C ex ro st o).bind fun r => match r with
    | .val v H => (({ st with hp := H } : St).put o.dst v).bind k
    | .dfr d => (({ st with defs := d :: st.defs } : St).put o.dst .bad).bind k
    | .pan v H => some (.panic v, { st with hp := H })
  else (nop C st.mu (ev C st.env) o.op st.hp).bind fun r => match r with
    | .v a => (st.put o.dst a).bind k
    | .new f x => (({ st with hp := st.hp.new x } : St).put o.dst (f st.hp.next)).bind k

def runOps (C : Ctx) (ex : Run) (ro : Option Nat) (all : List Oper) : List Oper → St → Option (Ex × St)
  | [], st => some (.normal, st)
  | o :: l, st => (guardOk all st o).bind fun g => if g then oneOp C ex ro st o (runOps C ex ro all l) else (st.put o.dst .bad).bind (runOps C ex ro all l)

/-! ### A region that draws its order: by stages -/
mutual
def eqA : AV → AV → Bool
  | .bool a, .bool b => a == b
  | .int k a, .int k' b => k == k' && a == b
  | .str a, .str b => a == b
  | .ptr b o, .ptr b' o' => b == b' && o == o'
  | .vptr cs o, .vptr cs' o' => o == o' && eqAs cs cs'
  | .nilptr, .nilptr => true
  | .nils, .nils => true
  | .vs xs t, .vs ys u => t == u && eqAs xs ys
  | .rs b o n e, .rs b' o' n' e' => b == b' && o == o' && n == n' && e == e'
  | .map r, .map r' => r == r'
  | .iter b, .iter b' => b == b'
  | .func fn a b, .func gn c d => fn == gn && eqAs a c && eqAs b d
  | .nilFunc, .nilFunc => true
  | .iface t v, .iface u w => t == u && eqA v w
  | .nilIface, .nilIface => true
  | .agg a, .agg b => eqAs a b
  | .tuple a, .tuple b => eqAs a b
  | _, _ => false
def eqAs : List AV → List AV → Bool
  | [], [] => true
  | x :: xs, y :: ys => eqA x y && eqAs xs ys
  | _, _ => false
end

def idOf : AV → Option Nat
  | .ptr b _ => some b
  | .vs _ (some t) => some t
  | .rs b _ _ _ => some b
  | .map (some b) => some b
  | .iter b => some b
  | _ => none

def eqB : AB → AB → Bool
  | .cells a, .cells b => eqAs a b
  | .tok a, .tok b => a == b
  | .map [], .map [] => true
  | _, _ => false

/-- An operation of a stage that has no effect. -/
def runN1 (C : Ctx) (all : List Oper) (i : Nat) (st : St) : Option St :=
  (all[i]?).bind fun o => (guardOk all st o).bind fun g => if isEff o.op then none else
    if g then (nop C st.mu (ev C st.env) o.op st.hp).bind fun r => match r with
      | .v a => st.put o.dst a
      | .new f x => ({ st with hp := st.hp.new x } : St).put o.dst (f st.hp.next)
    else st.put o.dst .bad

def runNs (C : Ctx) (all : List Oper) : List Nat → St → Option St
  | [], st => some st
  | i :: ns, st => (runN1 C all i st).bind (runNs C all ns)

/-- Does the operation, done now, come to what stands in its place? (Of a new block: from 'base' on, if so asked.) -/
def still1 (C : Ctx) (all : List Oper) (st : St) (i : Nat) : Bool :=
  match all[i]? with
  | none => false
  | some o => match guardOk all st o, o.dst with
    | some false, none => true
    | some false, some d => match st.env d with | .bad => true | _ => false
    | some true, none => match nop C st.mu (ev C st.env) o.op st.hp with | some (.v _) => true | _ => false
    | some true, some d => match nop C st.mu (ev C st.env) o.op st.hp with
      | some (.v a) => eqA a (st.env d)
      | some (.new f x) => match idOf (st.env d) with | some id => eqA (f id) (st.env d) && eqB x (st.hp.blk id) && id < st.hp.next | none => false
      | none => false
    | _, _ => false

/-- The new block that stands in an operation's place. -/
def newId (C : Ctx) (all : List Oper) (st : St) (i : Nat) : Option Nat :=
  (all[i]?).bind fun o => o.dst.bind fun d => match guardOk all st o, nop C st.mu (ev C st.env) o.op st.hp with
    | some true, some (.new _ _) => idOf (st.env d)
    | _, _ => none

def nodupB : List Nat → Bool
  | [] => true
  | x :: xs => !xs.contains x && nodupB xs

/-- The new blocks of what may still be done. -/
def stageNew (C : Ctx) (all : List Oper) (s : Stg) (st : St) : List (Nat × Nat) := s.re.filterMap fun i => (newId C all st i).map fun id => (i, id)

/-- What is asked of a stage whose operations without an effect have been done ('base': the heap's next block before them; 'nw': the new blocks of the stage before). -/
def stageOk (C : Ctx) (all : List Oper) (s : Stg) (base : Nat) (nw : List (Nat × Nat)) (st : St) : Bool :=
  s.re.all (still1 C all st) && nodupB ((stageNew C all s st).map (·.2)) && (stageNew C all s st).all fun p => (s.ns.contains p.1 && decide (base ≤ p.2)) || nw.contains p

def badAll (all : List Oper) (env : Nat → AV) : Nat → AV := fun j => if all.any (fun o => o.dst == some j) then .bad else env j

def effOp (C : Ctx) (ex : Run) (ro : Option Nat) (all : List Oper) (st : St) (i : Nat) (k : St → Option (Ex × St)) : Option (Ex × St) :=
  (all[i]?).bind fun o => (guardOk all st o).bind fun g => if g then
    if isEff o.op then (eop C ex ro st o).bind fun r => match r with
      | .val v H => (({ st with hp := H } : St).put o.dst v).bind k
      | .pan v H => some (.panic v, { st with hp := H, env := badAll all st.env })
      | .dfr _ => none
    else (runN1 C all i st).bind k
  else (st.put o.dst .bad).bind k

def drawRun (C : Ctx) (ex : Run) (ro : Option Nat) (all : List Oper) : List (Nat × Nat) → List Stg → St → Option (Ex × St)
  | _, [], _ => none
  | nw, s :: l, st => (runNs C all s.ns st).bind fun st1 => if stageOk C all s st.hp.next nw st1 then (match s.e with
    | none => if l.isEmpty then some (.normal, st1) else none
    | some e => effOp C ex ro all st1 e (drawRun C ex ro all (stageNew C all s st1) l)) else none

/-! ### A range over a function -/
def pendEx (c : Option Code) : Option Ex :=
  match c with
  | none => some .normal
  | some .ret => some .ret
  | some (.exit id) => some (.exit id)
  | _ => none

def afterRange (l : Nat) (st : St) (r : CR × Heap) : Option (Ex × St) :=
  match r.1 with
  | .ret _ => (r.2.blk l).loop?.bind fun L => if L.s = .busy then none else
    (pendEx L.pend).map fun e => (e, { st with hp := r.2.set l (.loop { L with s := .exhausted }) })
  | .pan v => some (.panic v, { st with hp := r.2 })

def newLoop (st : St) (ps : List Nat) (asg body : Code) (dq : Nat) : AB :=
  .loop { s := .ready, pend := none, f := st.fn, env := st.env, nt := st.nt, mu := st.mu, ps := ps, asg := asg, body := body, dq := dq }

def doRange (C : Ctx) (ex : Run) (ro : Option Nat) (f : Operand) (ps : List Nat) (asg body : Code) (st : St) : Option (Ex × St) :=
  match ro with
  | none =>
    (callW C ex (ev C st.env f) [.func (.yield (st.hp.next + 1)) [] []] ((st.hp.new .defq).new (newLoop st ps asg body st.hp.next))).bind
      (afterRange (st.hp.next + 1) { st with defs := .coll st.hp.next :: st.defs })
  | some l => (st.hp.blk l).loop?.bind fun L =>
    (callW C ex (ev C st.env f) [.func (.yield st.hp.next) [] []] (st.hp.new (newLoop st ps asg body L.dq))).bind (afterRange st.hp.next st)

/-! ### The interpreter -/
/-- What an operation comes behind. -/
def edgesOf (o : Oper) : List Nat := (o.after.toList.filter (Region.binds .any)).map (·.on)

def bitsOf (acc : List (Nat × Nat)) : List Nat → Option Nat
  | [] => some 0
  | p :: ps => (acc.lookup p).bind fun b => (bitsOf acc ps).map fun c => c ||| b ||| 2 ^ p

/-- What is surely done before each operation, along an order. -/
def ancs (all : List Oper) : List Nat → List (Nat × Nat) → Option (List (Nat × Nat))
  | [], acc => some acc
  | i :: l, acc => (all[i]?).bind fun o => (bitsOf acc (edgesOf o)).bind fun b => ancs all l ((i, b) :: acc)

def surely (A : List (Nat × Nat)) (i j : Nat) : Bool := match A.lookup j with | some b => b.testBit i | none => false

def ordOf (l : List Stg) : List Nat := l.flatMap fun s => s.ns ++ s.e.toList

/-- What an operation looks at: temporaries. -/
def looks (all : List Oper) (o : Oper) : List Nat :=
  (o.op.operands.toList.filterMap fun x => match x with | .tmp t => some t | _ => none) ++ (match o.guard with | some (j, _) => ((all[j]?).bind (·.dst)).toList | none => [])

/-- Of two operations: the one's place is looked at by the other. -/
def readOk (all : List Oper) (A : List (Nat × Nat)) (es : List Nat) (i j : Nat) : Bool :=
  match all[i]?, all[j]? with
  | some oi, some oj => match oj.dst with
    | none => true
    | some t => !(looks all oi).contains t || (if i = j then es.contains i else surely A j i || (surely A i j && es.contains j))
  | _, _ => false

/-- The stages, one by one: 'prev': the effect before; 'old': the operations without an effect of the stages before. -/
def stagesOk (A : List (Nat × Nat)) : Option Nat → List Nat → List Stg → Bool
  | _, _, [] => false
  | prev, old, s :: l =>
    (match prev with | none => true | some p => s.ns.all (surely A p) && s.e.all (surely A p)) &&
    s.ns.all s.re.contains && (old.all fun i => s.re.contains i || (match prev with | some p => surely A i p | none => false)) &&
    s.re.all (fun i => (old ++ s.ns).contains i) &&
    (match s.e with | none => l.isEmpty | some e => stagesOk A (some e) (old ++ s.ns) l)

/-- A schedule that is good for a region. -/
def dOK (all : List Oper) (l : List Stg) : Bool :=
  match ancs all (ordOf l) [] with
  | none => false
  | some A => nodupB (ordOf l) && (List.range all.length).all (ordOf l).contains && nodupB (all.filterMap (·.dst)) && stagesOk A none [] l &&
    (ordOf l).all fun i => (ordOf l).all fun j => readOk all A (l.filterMap (·.e)) i j

def stepC (C : Ctx) (ex : Run) : Run := fun ro c st =>
  match c with
  | .skip | .label _ => some (.normal, st)
  | .region id ops draw => if draw then (C.sch st.fn id).bind fun l => if dOK ops.toList l then drawRun C ex ro ops.toList [] l st else none else runOps C ex ro ops.toList ops.toList st
  | .seq a b => (ex ro a st).bind fun r => match r.1 with | .normal => ex ro b r.2 | _ => some r
  | .cond c a b => match ev C st.env c with | .bool t => ex ro (if t then a else b) st | _ => none
  | .block id b => (ex ro b st).map fun r => match r.1 with | .exit i => if i = id then (.normal, r.2) else r | _ => r
  | .loop b => (ex ro b st).bind fun r => match r.1 with | .normal => ex ro (.loop b) r.2 | _ => some r
  | .rangeFunc f ps asg body => doRange C ex ro f ps.toList asg body st
  | .exit id => some (.exit id, st)
  | .scope b => ex ro b st
  | .ret => some (.ret, st)
  | .goto _ | .refuse _ => none

def exec (C : Ctx) : Nat → Run
  | 0 => fun _ _ _ => none
  | n + 1 => stepC C (exec C n)

/-- A call from outside. -/
def call (C : Ctx) (n f : Nat) (args : List AV) (H : Heap) : Option (CR × Heap) := callF C (exec C n) f args H

end Go.AM

/-
  THE ABSTRACT MACHINE, second text: what an abstract value, an abstract heap say of real memory; how a run may change memory.
-/
namespace Go.AM

/-- Where an abstract block lies: a row of cells (block, first cell, how many are owned); a heap object; an append right (the slice's address, length, capacity, cells an element). -/
inductive Pl where
  | cells (B base ext : Nat)
  | obj (r : Nat)
  | tok (B base len cap sz : Nat)

/-- What goes with a run and is not computed: where blocks lie; cells that never change again, with what they hold; the size of each type's elements. -/
structure Gh where
  rho : Nat → Option Pl
  lv : Nat → Nat → Option Value
  esz : Nat → Nat

structure Gh.Le (γ γ' : Gh) : Prop where
  rho : ∀ b p, γ.rho b = some p → γ'.rho b = some p
  lv : ∀ B i v, γ.lv B i = some v → γ'.lv B i = some v
  esz : γ'.esz = γ.esz

theorem Gh.Le.refl (γ : Gh) : γ.Le γ := ⟨fun _ _ h => h, fun _ _ _ h => h, rfl⟩
theorem Gh.Le.trans {a b c : Gh} (h : a.Le b) (k : b.Le c) : a.Le c := ⟨fun x p hx => k.rho x p (h.rho x p hx), fun B i v hv => k.lv B i v (h.lv B i v hv), k.esz.trans h.esz⟩

inductive FnR (γ : Gh) : Fn → Fn → Prop where
  | func (f : FuncId) : FnR γ (.func f) (.func f)
  | yield {l r : Nat} (h : γ.rho l = some (.obj r)) : FnR γ (.yield l) (.yield r)

theorem FnR.mono {γ γ' : Gh} (hle : γ.Le γ') {a b : Fn} (h : FnR γ a b) : FnR γ' a b := by
  cases h with
  | func f => exact .func f
  | yield h => exact .yield (hle.rho _ _ h)

inductive VR (γ : Gh) : AV → Value → Prop where
  | bad (v : Value) : VR γ .bad v
  | bool (b : Bool) : VR γ (.bool b) (.bool b)
  | int (k : IntKind) (n : Int) : VR γ (.int k n) (.int k n)
  | str (l : List UInt8) (s : ByteArray) (h : s.data.toList = l) : VR γ (.str l) (.string s)
  | ptr {b B base ext : Nat} (o : Nat) (h : γ.rho b = some (.cells B base ext)) : VR γ (.ptr b o) (.pointer (some ⟨B, base + o, none⟩))
  | iter {b r : Nat} (h : γ.rho b = some (.obj r)) : VR γ (.iter b) (.pointer (some ⟨r, 0, none⟩))
  | vptr {cs : List AV} {B base : Nat} (o : Nat) (c : Nat → Value) (h1 : ∀ (x : AV), x ∈ cs → one x = true) (h : ∀ (j : Nat) (x : AV), cs[j]? = some x → γ.lv B (base + j) = some (c j))
      (hv : ∀ (j : Nat) (x : AV), cs[j]? = some x → VR γ x (c j)) : VR γ (.vptr cs o) (.pointer (some ⟨B, base + o, none⟩))
  | nilptr : VR γ .nilptr (.pointer none)
  | nils : VR γ .nils (.slice none 0 0)
  | vs {xs : List AV} {tok : Option Nat} {B base cap sz : Nat} (c : Nat → Nat → Value) (h1 : ∀ (x : AV), x ∈ xs → ∀ (y : AV), y ∈ cellsOf x → one y = true) (hsz : ∀ (i : Nat) (x : AV), xs[i]? = some x → (cellsOf x).length = sz)
      (hlv : ∀ (i : Nat) (x : AV) (j : Nat) (y : AV), xs[i]? = some x → (cellsOf x)[j]? = some y → γ.lv B (base + i * sz + j) = some (c i j))
      (hv : ∀ (i : Nat) (x : AV) (j : Nat) (y : AV), xs[i]? = some x → (cellsOf x)[j]? = some y → VR γ y (c i j))
      (hcap : xs.length ≤ cap)
      (htok : ∀ (t : Nat), tok = some t → ∃ sz', (xs ≠ [] → sz' = sz) ∧ γ.rho t = some (.tok B base xs.length cap sz')) : VR γ (.vs xs tok) (.slice (some ⟨B, base, none⟩) xs.length cap)
  | rs {b B base ext cap : Nat} (o len e : Nat) (h : γ.rho b = some (.cells B base ext)) (hcap : len ≤ cap) (hext : o + cap * γ.esz e ≤ ext) :
      VR γ (.rs b o len e) (.slice (some ⟨B, base + o, none⟩) len cap)
  | mapNil : VR γ (.map none) (.map none)
  | map {b r : Nat} (h : γ.rho b = some (.obj r)) : VR γ (.map (some b)) (.map (some r))
  | func {fn fn' : Fn} {a b : List AV} {a' b' : Array Value} (hf : FnR γ fn fn') (la : a.length = a'.size) (lb : b.length = b'.size)
      (ha : ∀ (i : Nat) (x : AV) (v : Value), a[i]? = some x → a'[i]? = some v → VR γ x v) (hb : ∀ (i : Nat) (x : AV) (v : Value), b[i]? = some x → b'[i]? = some v → VR γ x v) : VR γ (.func fn a b) (.func fn' a' b')
  | nilFunc : VR γ .nilFunc .nilFunc
  | iface {x : AV} {v : Value} (t : Nat) (h : VR γ x v) : VR γ (.iface t x) (.iface t v)
  | nilIface : VR γ .nilIface .nilIface
  | agg {cs : List AV} {vs : Array Value} (h1 : ∀ (x : AV), x ∈ cs → one x = true) (l : cs.length = vs.size) (h : ∀ (i : Nat) (x : AV) (v : Value), cs[i]? = some x → vs[i]? = some v → VR γ x v) : VR γ (.agg cs) (.agg vs)
  | tuple {cs : List AV} {vs : Array Value} (l : cs.length = vs.size) (h : ∀ (i : Nat) (x : AV) (v : Value), cs[i]? = some x → vs[i]? = some v → VR γ x v) : VR γ (.tuple cs) (.tuple vs)

theorem VR.mono {γ γ' : Gh} (hle : γ.Le γ') {a : AV} {v : Value} (h : VR γ a v) : VR γ' a v := by
  induction h with
  | bad v => exact .bad v
  | bool b => exact .bool b
  | int k n => exact .int k n
  | str l s h => exact .str l s h
  | ptr o h => exact .ptr o (hle.rho _ _ h)
  | iter h => exact .iter (hle.rho _ _ h)
  | vptr o c h1 h _ ih => exact .vptr o c h1 (fun j x hx => hle.lv _ _ _ (h j x hx)) ih
  | nilptr => exact .nilptr
  | nils => exact .nils
  | vs c h1 hsz hlv _ hcap htok ih => exact .vs c h1 hsz (fun i x j y h1 h2 => hle.lv _ _ _ (hlv i x j y h1 h2)) ih hcap (fun t ht => let ⟨s, h1, h2⟩ := htok t ht; ⟨s, h1, hle.rho _ _ h2⟩)
  | rs o len e h hcap hext => exact .rs o len e (hle.rho _ _ h) hcap (by rw [hle.esz]; exact hext)
  | mapNil => exact .mapNil
  | map h => exact .map (hle.rho _ _ h)
  | func hf la lb _ _ iha ihb => exact .func (hf.mono hle) la lb iha ihb
  | nilFunc => exact .nilFunc
  | iface t _ ih => exact .iface t ih
  | nilIface => exact .nilIface
  | agg h1 l _ ih => exact .agg h1 l ih
  | tuple l _ ih => exact .tuple l ih

/-- A value without an address of a block's. -/
inductive AV.Free : AV → Prop where
  | bad : Free .bad
  | bool (b : Bool) : Free (.bool b)
  | int (k : IntKind) (n : Int) : Free (.int k n)
  | str (s : List UInt8) : Free (.str s)
  | nilptr : Free .nilptr
  | nils : Free .nils
  | vptr (cs : List AV) (o : Nat) (h : ∀ x, x ∈ cs → Free x) : Free (.vptr cs o)
  | vs (xs : List AV) (h : ∀ x, x ∈ xs → Free x) : Free (.vs xs none)
  | mapNil : Free (.map none)
  | nilFunc : Free .nilFunc
  | iface (t : Nat) (x : AV) (h : Free x) : Free (.iface t x)
  | nilIface : Free .nilIface
  | agg (cs : List AV) (h : ∀ x, x ∈ cs → Free x) : Free (.agg cs)
  | tuple (cs : List AV) (h : ∀ x, x ∈ cs → Free x) : Free (.tuple cs)

/-- Values one by one. -/
def VRs (γ : Gh) (cs : List AV) (vs : List Value) : Prop := cs.length = vs.length ∧ ∀ (i : Nat) (x : AV) (v : Value), cs[i]? = some x → vs[i]? = some v → VR γ x v

theorem VRs.mono {γ γ' : Gh} (hle : γ.Le γ') {a : List AV} {v : List Value} (h : VRs γ a v) : VRs γ' a v := ⟨h.1, fun i x y hx hy => (h.2 i x y hx hy).mono hle⟩
theorem VRs.nil {γ : Gh} : VRs γ [] [] := ⟨rfl, fun i x v h => by simp at h⟩
theorem VRs.cons {γ : Gh} {x : AV} {v : Value} {xs : List AV} {vs : List Value} (h : VR γ x v) (hs : VRs γ xs vs) : VRs γ (x :: xs) (v :: vs) := by
  refine ⟨by simp [hs.1], fun i y w hy hw => ?_⟩
  cases i with
  | zero => simp at hy hw; subst hy; subst hw; exact h
  | succ i => simp at hy hw; exact hs.2 i y w hy hw
theorem VRs.head {γ : Gh} {x : AV} {v : Value} {xs : List AV} {vs : List Value} (h : VRs γ (x :: xs) (v :: vs)) : VR γ x v := h.2 0 x v rfl rfl
theorem VRs.tail {γ : Gh} {x : AV} {v : Value} {xs : List AV} {vs : List Value} (h : VRs γ (x :: xs) (v :: vs)) : VRs γ xs vs :=
  ⟨by have := h.1; simp at this; exact this, fun i y w hy hw => h.2 (i + 1) y w (by simpa using hy) (by simpa using hw)⟩
theorem VRs.append {γ : Gh} {a b : List AV} {c d : List Value} (h : VRs γ a c) (k : VRs γ b d) : VRs γ (a ++ b) (c ++ d) := by
  refine ⟨by simp [h.1, k.1], fun i x v hx hv => ?_⟩
  by_cases hi : i < a.length
  · rw [List.getElem?_append_left hi] at hx
    rw [List.getElem?_append_left (by rw [← h.1]; exact hi)] at hv
    exact h.2 i x v hx hv
  · rw [List.getElem?_append_right (by omega)] at hx
    rw [List.getElem?_append_right (by rw [← h.1]; omega)] at hv
    exact k.2 _ x v hx (by rw [← h.1] at hv; exact hv)
theorem VRs.get {γ : Gh} {a : List AV} {c : List Value} (h : VRs γ a c) {i : Nat} {x : AV} (hx : a[i]? = some x) : ∃ v, c[i]? = some v ∧ VR γ x v := by
  have hi : i < a.length := (List.getElem?_eq_some_iff.1 hx).1
  have : i < c.length := h.1 ▸ hi
  exact ⟨c[i], List.getElem?_eq_getElem this, h.2 i x _ hx (List.getElem?_eq_getElem this)⟩
theorem VRs.drop {γ : Gh} {a : List AV} {c : List Value} (h : VRs γ a c) (n : Nat) : VRs γ (a.drop n) (c.drop n) :=
  ⟨by simp [h.1], fun i x v hx hv => h.2 (n + i) x v (by simpa [List.getElem?_drop] using hx) (by simpa [List.getElem?_drop] using hv)⟩
theorem VRs.take {γ : Gh} {a : List AV} {c : List Value} (h : VRs γ a c) (n : Nat) : VRs γ (a.take n) (c.take n) := by
  refine ⟨by simp [h.1], fun i x v hx hv => ?_⟩
  simp only [List.getElem?_take] at hx hv
  split at hx
  · rename_i hi; simp only [hi, if_true] at hv; exact h.2 i x v hx hv
  · cases hx
theorem VRs.replicate {γ : Gh} {x : AV} {v : Value} (h : VR γ x v) (n : Nat) : VRs γ (List.replicate n x) (List.replicate n v) := by
  refine ⟨by simp, fun i y w hy hw => ?_⟩
  simp only [List.getElem?_replicate] at hy hw
  split at hy
  · rename_i hi; simp only [hi, if_true] at hw; cases hy; cases hw; exact h
  · cases hy
theorem VRs.agg {γ : Gh} {cs : List AV} {vs : Array Value} (h : VRs γ cs vs.toList) (h1 : ∀ x, x ∈ cs → one x = true) : VR γ (.agg cs) (.agg vs) :=
  .agg h1 (by simpa using h.1) (fun i x v hx hv => h.2 i x v hx (by simpa using hv))
theorem VRs.tuple {γ : Gh} {cs : List AV} {vs : Array Value} (h : VRs γ cs vs.toList) : VR γ (.tuple cs) (.tuple vs) :=
  .tuple (by simpa using h.1) (fun i x v hx hv => h.2 i x v hx (by simpa using hv))
theorem VR.agg_inv {γ : Gh} {cs : List AV} {v : Value} (h : VR γ (.agg cs) v) : ∃ vs : Array Value, v = .agg vs ∧ VRs γ cs vs.toList ∧ ∀ x, x ∈ cs → one x = true := by
  cases h with
  | agg h1 l h => exact ⟨_, rfl, ⟨by simpa using l, fun i x v hx hv => h i x v hx (by simpa using hv)⟩, h1⟩
theorem VR.tuple_inv {γ : Gh} {cs : List AV} {v : Value} (h : VR γ (.tuple cs) v) : ∃ vs : Array Value, v = .tuple vs ∧ VRs γ cs vs.toList := by
  cases h with
  | tuple l h => exact ⟨_, rfl, by simpa using l, fun i x v hx hv => h i x v hx (by simpa using hv)⟩
theorem VR.func_inv {γ : Gh} {fn : Fn} {a b : List AV} {v : Value} (h : VR γ (.func fn a b) v) :
    ∃ fn' a' b', v = .func fn' a' b' ∧ FnR γ fn fn' ∧ VRs γ a a'.toList ∧ VRs γ b b'.toList := by
  cases h with
  | func hf la lb ha hb => exact ⟨_, _, _, rfl, hf, ⟨by simpa using la, fun i x v hx hv => ha i x v hx (by simpa using hv)⟩, by simpa using lb, fun i x v hx hv => hb i x v hx (by simpa using hv)⟩

theorem one_of {γ : Gh} {x : AV} {v : Value} (h : VR γ x v) (h1 : one x = true) : v.oneCell' = true := by
  cases h <;> first | rfl | cases h1

theorem cellsOf_one {x : AV} (h : one x = true) : cellsOf x = [x] := by
  cases x <;> first | rfl | cases h

theorem one_cells {γ : Gh} {x : AV} {v : Value} (h : VR γ x v) (h1 : one x = true) : VRs γ (cellsOf x) v.cells.toList := by
  have e : v.cells = #[v] := by cases h <;> first | rfl | cases h1
  rw [cellsOf_one h1, e]
  exact VRs.cons h VRs.nil

/-- A value's cells. -/
theorem VR.cells {γ : Gh} {x : AV} {v : Value} (h : VR γ x v) (hs : stor x = true) : VRs γ (cellsOf x) v.cells.toList ∧ ∀ y, y ∈ cellsOf x → one y = true := by
  by_cases ho : one x = true
  · exact ⟨one_cells h ho, fun y hy => by rw [cellsOf_one ho] at hy; simp at hy; rw [hy]; exact ho⟩
  · cases h with
    | agg h1 l h => exact ⟨⟨by simpa [cellsOf, Value.cells] using l, fun i x v hx hv => h i x v hx (by simpa [Value.cells] using hv)⟩, h1⟩
    | bad => cases hs
    | tuple => cases hs
    | _ => exact absurd rfl ho

/-! ### Ownership -/
/-- The cells that an abstract block owns. -/
def own (γ : Gh) (H : Heap) (b B i : Nat) : Prop :=
  match γ.rho b, H.blk b with
  | some (.cells B' base ext), .cells _ => B = B' ∧ base ≤ i ∧ i < base + ext
  | some (.tok B' base len cap sz), .tok _ => B = B' ∧ base + len * sz ≤ i ∧ i < base + cap * sz
  | _, _ => False

theorem own_cells {γ : Gh} {H : Heap} {b B base ext : Nat} {cs : List AV} (hr : γ.rho b = some (.cells B base ext)) (hb : H.blk b = .cells cs) (B' i : Nat) :
    own γ H b B' i ↔ B' = B ∧ base ≤ i ∧ i < base + ext := by simp [own, hr, hb]
theorem own_tok {γ : Gh} {H : Heap} {b B base len cap sz s : Nat} (hr : γ.rho b = some (.tok B base len cap sz)) (hb : H.blk b = .tok s) (B' i : Nat) :
    own γ H b B' i ↔ B' = B ∧ base + len * sz ≤ i ∧ i < base + cap * sz := by simp [own, hr, hb]

/-- The record of a range over a function. -/
structure LoopR (γ : Gh) (L : ALoop) (l : Loop) : Prop where
  s : l.state = L.s
  pend : l.pending = L.pend
  nt : l.tmps.size = L.nt
  env : ∀ t, VR γ (L.env t) (l.tmps.getD t undef)
  ps : l.params.toList = L.ps
  asg : l.assign = L.asg
  body : l.body = L.body
  dq : ∃ r, γ.rho L.dq = some (.obj r) ∧ l.defers = r

/-- What a heap object is like. -/
def ObjR (γ : Gh) (x : AB) (o : Option Obj) : Prop :=
  match x with
  | .map es => ∃ es' clock, o = some (.map es' clock) ∧ es.length = es'.size ∧ ∀ (i : Nat) (e : AV × AV) (e' : MapEntry), es[i]? = some e → es'[i]? = some e' → VR γ e.1 e'.key ∧ VR γ e.2 e'.val
  | .loop L => ∃ l, o = some (.loop l) ∧ LoopR γ L l
  | .defq => o = some (.deferred (some []))
  | .siter s pos => ∃ b, o = some (.stringIter b pos) ∧ b.data.toList = s
  | .dead => True
  | .cells _ => False
  | .tok _ => False

theorem LoopR.mono {γ γ' : Gh} (hle : γ.Le γ') {L : ALoop} {l : Loop} (h : LoopR γ L l) : LoopR γ' L l :=
  ⟨h.s, h.pend, h.nt, fun t => (h.env t).mono hle, h.ps, h.asg, h.body, let ⟨r, h1, h2⟩ := h.dq; ⟨r, hle.rho _ _ h1, h2⟩⟩
theorem ObjR.mono {γ γ' : Gh} (hle : γ.Le γ') {x : AB} {o : Option Obj} (h : ObjR γ x o) : ObjR γ' x o := by
  cases x with
  | map es => obtain ⟨es', cl, h1, h2, h3⟩ := h; exact ⟨es', cl, h1, h2, fun i e e' he he' => let ⟨a, b⟩ := h3 i e e' he he'; ⟨a.mono hle, b.mono hle⟩⟩
  | loop L => obtain ⟨l, h1, h2⟩ := h; exact ⟨l, h1, h2.mono hle⟩
  | defq => exact h
  | siter s pos => exact h
  | cells => exact h
  | tok => exact h
  | dead => trivial

def isObj : AB → Bool
  | .map _ | .loop _ | .defq | .siter _ _ => true
  | _ => false

/-- An abstract heap, over real memory. -/
structure HR (γ : Gh) (H : Heap) (w : World) : Prop where
  fresh : ∀ b, H.next ≤ b → γ.rho b = none
  cells : ∀ b B base ext cs, γ.rho b = some (.cells B base ext) → H.blk b = .cells cs → cs.length ≤ ext ∧
    (∀ (j : Nat) (x : AV), cs[j]? = some x → ∃ v, w.cell? ⟨B, base + j, none⟩ = some v ∧ VR γ x v ∧ one x = true) ∧
    (∀ j, j < ext → (∃ v, w.cell? ⟨B, base + j, none⟩ = some v) ∧ w.frozen? ⟨B, base + j, none⟩ = false)
  toks : ∀ b B base len cap sz s, γ.rho b = some (.tok B base len cap sz) → H.blk b = .tok s → s = sz ∧
    ∀ j, len * sz ≤ j → j < cap * sz → (∃ v, w.cell? ⟨B, base + j, none⟩ = some v) ∧ w.frozen? ⟨B, base + j, none⟩ = false
  objs : ∀ b r, γ.rho b = some (.obj r) → r < w.heap.size ∧ ObjR γ (H.blk b) w.heap[r]? ∧ (∀ (c : Array Value) (e : TypeId) (f : Nat × Nat), w.heap[r]? ≠ some (.cells c e f))
  lock : ∀ B i v, γ.lv B i = some v → w.cell? ⟨B, i, none⟩ = some v
  d1 : ∀ b b' B i, own γ H b B i → own γ H b' B i → b = b'
  d2 : ∀ b B i, own γ H b B i → γ.lv B i = none
  d3 : ∀ b b' r, γ.rho b = some (.obj r) → γ.rho b' = some (.obj r) → b = b'

/-- Is it that real block an owned object? -/
def ownO (γ : Gh) (r : Nat) : Prop := ∃ b, γ.rho b = some (.obj r)

/-- What a run may do to memory: it writes what it owns, and makes new blocks. -/
structure Ext (γ : Gh) (H : Heap) (w : World) (γ' : Gh) (H' : Heap) (w' : World) : Prop where
  le : γ.Le γ'
  size : w.heap.size ≤ w'.heap.size
  next : H.next ≤ H'.next
  cell : ∀ B i, B < w.heap.size → (∀ b, ¬ own γ H b B i) → w'.cell? ⟨B, i, none⟩ = w.cell? ⟨B, i, none⟩
  blk : ∀ B, B < w.heap.size → (∀ b i, ¬ own γ H b B i) → ¬ ownO γ B → w'.heap[B]? = w.heap[B]?
  kind : ∀ (B : Nat) (c : Array Value) (e : TypeId) (f : Nat × Nat), w.heap[B]? = some (.cells c e f) → ∃ c' : Array Value, w'.heap[B]? = some (.cells c' e f) ∧ c'.size = c.size
  ownM : ∀ b B i, own γ' H' b B i → B < w.heap.size → ∃ b', own γ H b' B i
  ownOM : ∀ b r, γ'.rho b = some (.obj r) → r < w.heap.size → γ.rho b = some (.obj r)
  lvn : ∀ B i v, γ'.lv B i = some v → B < w.heap.size → γ.lv B i = some v ∨ ∃ b, own γ H b B i
  rhoN : ∀ b, b < H.next → γ'.rho b = γ.rho b
  os : w'.os = w.os ∧ w'.output = w.output

/-- The heap before blocks from b on were there. -/
def Heap.cut (H : Heap) (b : Nat) : Heap := ⟨b, H.blk⟩

theorem Ext.refl (γ : Gh) (H : Heap) (w : World) : Ext γ H w γ H w :=
  ⟨.refl γ, Nat.le_refl _, Nat.le_refl _, fun _ _ _ _ => rfl, fun _ _ _ _ => rfl, fun _ c _ _ h => ⟨c, h, rfl⟩, fun b _ _ h _ => ⟨b, h⟩, fun _ _ h _ => h, fun _ _ _ h _ => .inl h, fun _ _ => rfl, rfl, rfl⟩

theorem Ext.trans {γ γ₁ γ₂ : Gh} {H H₁ H₂ : Heap} {w w₁ w₂ : World} (h : Ext γ H w γ₁ H₁ w₁) (k : Ext γ₁ H₁ w₁ γ₂ H₂ w₂) : Ext γ H w γ₂ H₂ w₂ where
  le := h.le.trans k.le
  size := Nat.le_trans h.size k.size
  next := Nat.le_trans h.next k.next
  cell B i hB hn := by
    have h1 : ∀ b, ¬ own γ₁ H₁ b B i := fun b hb => by obtain ⟨b', hb'⟩ := h.ownM b B i hb hB; exact hn b' hb'
    exact (k.cell B i (Nat.lt_of_lt_of_le hB h.size) h1).trans (h.cell B i hB hn)
  blk B hB hn ho := by
    have h1 : ∀ b i, ¬ own γ₁ H₁ b B i := fun b i hb => by obtain ⟨b', hb'⟩ := h.ownM b B i hb hB; exact hn b' i hb'
    have h2 : ¬ ownO γ₁ B := fun ⟨b, hb⟩ => ho ⟨b, h.ownOM b B hb hB⟩
    exact (k.blk B (Nat.lt_of_lt_of_le hB h.size) h1 h2).trans (h.blk B hB hn ho)
  kind B c e f hB := by
    obtain ⟨c', h1, h2⟩ := h.kind B c e f hB
    obtain ⟨c'', h3, h4⟩ := k.kind B c' e f h1
    exact ⟨c'', h3, h4.trans h2⟩
  ownM b B i ho hB := by
    obtain ⟨b', hb'⟩ := k.ownM b B i ho (Nat.lt_of_lt_of_le hB h.size)
    exact h.ownM b' B i hb' hB
  ownOM b r hr hlt := h.ownOM b r (k.ownOM b r hr (Nat.lt_of_lt_of_le hlt h.size)) hlt
  lvn B i v hv hB := by
    rcases k.lvn B i v hv (Nat.lt_of_lt_of_le hB h.size) with h1 | ⟨b, hb⟩
    · exact h.lvn B i v h1 hB
    · obtain ⟨b', hb'⟩ := h.ownM b B i hb hB
      exact .inr ⟨b', hb'⟩
  rhoN b hb := (k.rhoN b (Nat.lt_of_lt_of_le hb h.next)).trans (h.rhoN b hb)
  os := ⟨k.os.1.trans h.os.1, k.os.2.trans h.os.2⟩

end Go.AM

/-
  THE ABSTRACT MACHINE, third text: what allocation and stores do to the relation between an abstract heap and real memory.
-/
namespace Go.AM

theorem heap_old (w : World) (o : Obj) (k : Nat) (h : k < w.heap.size) : (w.alloc o).heap[k]? = w.heap[k]? := by
  show (w.heap.push o)[k]? = _
  rw [Array.getElem?_push]
  simp [Nat.ne_of_lt h]

theorem HR.of_heap {γ : Gh} {H : Heap} {w w' : World} (h : HR γ H w) (e : w'.heap = w.heap) : HR γ H w' := by
  have hc : ∀ a, w'.cell? a = w.cell? a := fun a => by simp [World.cell?, e]
  have hf : ∀ a, w'.frozen? a = w.frozen? a := fun a => by simp [World.frozen?, e]
  exact ⟨h.fresh, fun b B base ext cs hr hb => by simpa only [hc, hf] using h.cells b B base ext cs hr hb,
    fun b B base len cap sz s hr hb => by simpa only [hc, hf] using h.toks b B base len cap sz s hr hb,
    fun b r hr => by rw [e]; exact h.objs b r hr, fun B i v hv => by rw [hc]; exact h.lock B i v hv, h.d1, h.d2, h.d3⟩

theorem Ext.of_heap {γ : Gh} {H : Heap} {w w' : World} (e : w'.heap = w.heap) (eo : w'.os = w.os ∧ w'.output = w.output := by exact ⟨rfl, rfl⟩) : Ext γ H w γ H w' := by
  have hc : ∀ a, w'.cell? a = w.cell? a := fun a => by simp [World.cell?, e]
  exact ⟨.refl γ, by rw [e]; exact Nat.le_refl _, Nat.le_refl _, fun _ _ _ _ => hc _, fun _ _ _ _ => by rw [e], fun _ c _ _ h => ⟨c, by rw [e]; exact h, rfl⟩,
    fun b _ _ h _ => ⟨b, h⟩, fun _ _ h _ => h, fun _ _ _ h _ => .inl h, fun _ _ => rfl, eo⟩

theorem cell_lt {w : World} {B i : Nat} {v : Value} (h : w.cell? ⟨B, i, none⟩ = some v) : B < w.heap.size := World.block_lt_of_cell? (w := w) (a := ⟨B, i, none⟩) h

/-- The heap's next block, before real memory has one for it. -/
theorem HR.new {γ : Gh} {H : Heap} {w : World} (h : HR γ H w) (x : AB) : HR γ (H.new x) w := by
  have hne : ∀ b p, γ.rho b = some p → b ≠ H.next := fun b p hp e => by rw [e, h.fresh _ (Nat.le_refl _)] at hp; cases hp
  have hblk : ∀ b p, γ.rho b = some p → (H.new x).blk b = H.blk b := fun b p hp => by simp [Heap.new, hne b p hp]
  have hown : ∀ b B i, own γ (H.new x) b B i → own γ H b B i := fun b B i ho => by
    unfold own at ho ⊢
    cases hp : γ.rho b with
    | none => simp [hp] at ho
    | some p => rw [hblk b p hp, hp] at ho; exact ho
  exact ⟨fun b hb => h.fresh b (by simp [Heap.new] at hb; omega), fun b B base ext cs hr hb => h.cells b B base ext cs hr (by rw [← hblk b _ hr]; exact hb),
    fun b B base len cap sz s hr hb => h.toks b B base len cap sz s hr (by rw [← hblk b _ hr]; exact hb),
    fun b r hr => by rw [hblk b _ hr]; exact h.objs b r hr, h.lock, fun b b' B i h1 h2 => h.d1 b b' B i (hown _ _ _ h1) (hown _ _ _ h2),
    fun b B i h1 => h.d2 b B i (hown _ _ _ h1), h.d3⟩

theorem own_new {γ : Gh} {H : Heap} {w : World} (h : HR γ H w) (x : AB) (b B i : Nat) : own γ (H.new x) b B i ↔ own γ H b B i := by
  unfold own
  cases hp : γ.rho b with
  | none => simp
  | some p =>
    have : b ≠ H.next := fun e => by rw [e, h.fresh _ (Nat.le_refl _)] at hp; cases hp
    simp [Heap.new, this]

theorem Ext.new {γ : Gh} {H : Heap} {w : World} (h : HR γ H w) (x : AB) : Ext γ H w γ (H.new x) w :=
  ⟨.refl γ, Nat.le_refl _, by simp [Heap.new], fun _ _ _ _ => rfl, fun _ _ _ _ => rfl, fun _ c _ _ h => ⟨c, h, rfl⟩, fun b B i ho _ => ⟨b, (own_new h x b B i).1 ho⟩,
    fun _ _ h _ => h, fun _ _ _ h _ => .inl h, fun _ _ => rfl, rfl, rfl⟩

/-- .. the block not yet counted. -/
theorem Ext.newc {γ : Gh} {H : Heap} {w : World} (h : HR γ H w) (x : AB) : Ext γ H w γ ((H.new x).cut H.next) w :=
  ⟨.refl γ, Nat.le_refl _, Nat.le_refl _, fun _ _ _ _ => rfl, fun _ _ _ _ => rfl, fun _ c _ _ h => ⟨c, h, rfl⟩, fun b B i ho _ => ⟨b, (own_new h x b B i).1 ho⟩,
    fun _ _ h _ => h, fun _ _ _ h _ => .inl h, fun _ _ => rfl, rfl, rfl⟩

/-- A block counted late. -/
theorem Ext.transc {γ γ₁ γ₂ : Gh} {H K K₂ : Heap} {w w₁ w₂ : World} {b : Nat} (h : Ext γ H w γ₁ K w₁) (k : Ext γ₁ (K.cut b) w₁ γ₂ K₂ w₂) (hb : H.next ≤ b) : Ext γ H w γ₂ K₂ w₂ :=
  have h' : Ext γ H w γ₁ (K.cut b) w₁ := ⟨h.le, h.size, hb, h.cell, h.blk, h.kind, h.ownM, h.ownOM, h.lvn, h.rhoN, h.os⟩
  h'.trans k

def Gh.at (γ : Gh) (b : Nat) (p : Pl) (B : Nat) (l : Nat → Option Value) : Gh :=
  ⟨fun j => if j = b then some p else γ.rho j, fun B' i => if B' = B then l i else γ.lv B' i, γ.esz⟩

/-- A new real block for an abstract one. -/
theorem HR.alloc {γ : Gh} {K : Heap} {w : World} (h : HR γ K w) {b : Nat} (hb : γ.rho b = none) (hlt : b < K.next) (o : Obj) (p : Pl) (l : Nat → Option Value)
    (hc : ∀ B base ext cs, p = .cells B base ext → K.blk b = .cells cs → B = w.heap.size ∧ cs.length ≤ ext ∧
      (∀ (j : Nat) (x : AV), cs[j]? = some x → ∃ v, (w.alloc o).cell? ⟨w.heap.size, base + j, none⟩ = some v ∧ VR γ x v ∧ one x = true) ∧
      (∀ j, j < ext → (∃ v, (w.alloc o).cell? ⟨w.heap.size, base + j, none⟩ = some v) ∧ (w.alloc o).frozen? ⟨w.heap.size, base + j, none⟩ = false))
    (ht : ∀ B base len cap sz s, p = .tok B base len cap sz → K.blk b = .tok s → s = sz ∧ B = w.heap.size ∧
      ∀ j, len * sz ≤ j → j < cap * sz → (∃ v, (w.alloc o).cell? ⟨w.heap.size, base + j, none⟩ = some v) ∧ (w.alloc o).frozen? ⟨w.heap.size, base + j, none⟩ = false)
    (ho : ∀ r, p = .obj r → r = w.heap.size ∧ (∀ γ', γ.Le γ' → ObjR γ' (K.blk b) (some o)) ∧ ∀ (c : Array Value) (e : TypeId) (f : Nat × Nat), o ≠ .cells c e f)
    (hl : ∀ i v, l i = some v → (w.alloc o).cell? ⟨w.heap.size, i, none⟩ = some v)
    (hd : ∀ i, own (γ.at b p w.heap.size l) K b w.heap.size i → l i = none) :
    HR (γ.at b p w.heap.size l) K (w.alloc o) ∧ Ext γ (K.cut b) w (γ.at b p w.heap.size l) K (w.alloc o) := by
  have hlv0 : ∀ i v, γ.lv w.heap.size i ≠ some v := fun i v hv => by have := cell_lt (h.lock _ _ _ hv); omega
  have hle : γ.Le (γ.at b p w.heap.size l) := by
    refine ⟨fun j q hq => ?_, fun B i v hv => ?_, rfl⟩
    · have : j ≠ b := fun e => by rw [e, hb] at hq; cases hq
      simp [Gh.at, this, hq]
    · have : B ≠ w.heap.size := fun e => by rw [e] at hv; exact hlv0 i v hv
      simp [Gh.at, this, hv]
  have hold : ∀ j q, j ≠ b → (γ.at b p w.heap.size l).rho j = some q → γ.rho j = some q := fun j q hj hq => by simpa [Gh.at, hj] using hq
  have hat : (γ.at b p w.heap.size l).rho b = some p := by simp [Gh.at]
  have hown : ∀ j B i, j ≠ b → (own (γ.at b p w.heap.size l) K j B i ↔ own γ K j B i) := fun j B i hj => by simp [own, Gh.at, hj]
  have hownlt : ∀ j B i, own γ K j B i → B < w.heap.size := fun j B i hj => by
    unfold own at hj
    split at hj
    · rename_i B' base ext cs hr hk
      obtain ⟨h1, h2, h3⟩ := hj
      subst h1
      obtain ⟨⟨v, hv⟩, _⟩ := (h.cells j _ _ _ _ hr hk).2.2 (i - base) (by omega)
      exact cell_lt hv
    · rename_i B' base len cap sz s hr hk
      obtain ⟨h1, h2, h3⟩ := hj
      subst h1
      obtain ⟨⟨v, hv⟩, _⟩ := (h.toks j _ _ _ _ _ _ hr hk).2 (i - base) (by omega) (by omega)
      exact cell_lt hv
    · exact hj.elim
  have hownb : ∀ B i, own (γ.at b p w.heap.size l) K b B i → B = w.heap.size := fun B i hj => by
    unfold own at hj
    rw [hat] at hj
    split at hj
    · rename_i B' base ext cs hr hk
      cases hr
      exact hj.1.trans (hc _ _ _ _ rfl hk).1
    · rename_i B' base len cap sz s hr hk
      cases hr
      exact hj.1.trans (ht _ _ _ _ _ _ rfl hk).2.1
    · exact hj.elim
  have hcell : ∀ B i, B < w.heap.size → (w.alloc o).cell? ⟨B, i, none⟩ = w.cell? ⟨B, i, none⟩ := fun B i hB => World.cell?_alloc_lt w o ⟨B, i, none⟩ hB
  have hfrz : ∀ B i, B < w.heap.size → (w.alloc o).frozen? ⟨B, i, none⟩ = w.frozen? ⟨B, i, none⟩ := fun B i hB => World.frozen?_alloc_old w o ⟨B, i, none⟩ (by simp; omega)
  have hheap : ∀ r, r < w.heap.size → (w.alloc o).heap[r]? = w.heap[r]? := fun r hr => heap_old w o r hr
  refine ⟨⟨?_, ?_, ?_, ?_, ?_, ?_, ?_, ?_⟩, ⟨hle, by simp, Nat.le_of_lt hlt, fun B i hB _ => hcell B i hB, fun B hB _ _ => hheap B hB, ?_, ?_, ?_, ?_, fun j hj => by
    have : j ≠ b := Nat.ne_of_lt hj
    simp [Gh.at, this], rfl, rfl⟩⟩
  · intro j hj
    have : j ≠ b := by omega
    simp [Gh.at, this, h.fresh j hj]
  · intro j B base ext cs hr hk
    by_cases hj : j = b
    · subst hj
      rw [hat] at hr; cases hr
      obtain ⟨rfl, h2, h3, h4⟩ := hc _ _ _ _ rfl hk
      exact ⟨h2, fun i x hx => let ⟨v, a1, a2, a3⟩ := h3 i x hx; ⟨v, a1, a2.mono hle, a3⟩, h4⟩
    · obtain ⟨h2, h3, h4⟩ := h.cells j B base ext cs (hold _ _ hj hr) hk
      refine ⟨h2, fun i x hx => ?_, fun i hi => ?_⟩
      · obtain ⟨v, a1, a2, a3⟩ := h3 i x hx
        exact ⟨v, by rw [hcell _ _ (cell_lt a1)]; exact a1, a2.mono hle, a3⟩
      · obtain ⟨⟨v, a1⟩, a2⟩ := h4 i hi
        exact ⟨⟨v, by rw [hcell _ _ (cell_lt a1)]; exact a1⟩, by rw [hfrz _ _ (cell_lt a1)]; exact a2⟩
  · intro j B base len cap sz s hr hk
    by_cases hj : j = b
    · subst hj
      rw [hat] at hr; cases hr
      obtain ⟨h0, rfl, h3⟩ := ht _ _ _ _ _ _ rfl hk
      exact ⟨h0, h3⟩
    · obtain ⟨h0, h3⟩ := h.toks j B base len cap sz s (hold _ _ hj hr) hk
      refine ⟨h0, fun i h1 h2 => ?_⟩
      obtain ⟨⟨v, a1⟩, a2⟩ := h3 i h1 h2
      exact ⟨⟨v, by rw [hcell _ _ (cell_lt a1)]; exact a1⟩, by rw [hfrz _ _ (cell_lt a1)]; exact a2⟩
  · intro j r hr
    by_cases hj : j = b
    · subst hj
      rw [hat] at hr
      obtain ⟨rfl, h2, h3⟩ := ho r (by simpa using hr)
      have hn : (w.alloc o).heap[w.heap.size]? = some o := World.alloc_heap_new w o
      exact ⟨by simp, by rw [hn]; exact h2 _ hle, fun c e f => by rw [hn]; simpa using h3 c e f⟩
    · obtain ⟨h1, h2, h3⟩ := h.objs j r (hold _ _ hj hr)
      exact ⟨by simp; omega, by rw [hheap r h1]; exact h2.mono hle, by rw [hheap r h1]; exact h3⟩
  · intro B i v hv
    by_cases hB : B = w.heap.size
    · subst hB
      exact hl i v (by simpa [Gh.at] using hv)
    · have hv' : γ.lv B i = some v := by simpa [Gh.at, hB] using hv
      have := h.lock _ _ _ hv'
      rw [hcell _ _ (cell_lt this)]; exact this
  · intro j j' B i h1 h2
    by_cases hj : j = b
    · by_cases hj' : j' = b
      · rw [hj, hj']
      · subst hj
        have a1 := hownb _ _ h1
        have a2 := hownlt _ _ _ ((hown _ _ _ hj').1 h2)
        omega
    · by_cases hj' : j' = b
      · subst hj'
        have a1 := hownb _ _ h2
        have a2 := hownlt _ _ _ ((hown _ _ _ hj).1 h1)
        omega
      · exact h.d1 j j' B i ((hown _ _ _ hj).1 h1) ((hown _ _ _ hj').1 h2)
  · intro j B i h1
    by_cases hj : j = b
    · subst hj
      have a1 := hownb _ _ h1
      subst a1
      simp [Gh.at, hd i h1]
    · have a1 := (hown _ _ _ hj).1 h1
      have a2 := hownlt _ _ _ a1
      have : B ≠ w.heap.size := by omega
      simp [Gh.at, this, h.d2 _ _ _ a1]
  · intro j j' r h1 h2
    by_cases hj : j = b
    · by_cases hj' : j' = b
      · rw [hj, hj']
      · subst hj
        rw [hat] at h1
        obtain ⟨rfl, _⟩ := ho r (by simpa using h1)
        have := (h.objs j' _ (hold _ _ hj' h2)).1
        omega
    · by_cases hj' : j' = b
      · subst hj'
        rw [hat] at h2
        obtain ⟨rfl, _⟩ := ho r (by simpa using h2)
        have := (h.objs j _ (hold _ _ hj h1)).1
        omega
      · exact h.d3 j j' r (hold _ _ hj h1) (hold _ _ hj' h2)
  · intro B c e f hB
    have : B < w.heap.size := (Array.getElem?_eq_some_iff.1 hB).1
    exact ⟨c, by rw [hheap B this]; exact hB, rfl⟩
  · intro j B i h1 hB
    by_cases hj : j = b
    · subst hj
      have a1 := hownb _ _ h1
      omega
    · exact ⟨j, (hown _ _ _ hj).1 h1⟩
  · intro j r hr hlt'
    by_cases hj : j = b
    · subst hj
      rw [hat] at hr
      obtain ⟨rfl, _⟩ := ho r (by simpa using hr)
      omega
    · exact hold _ _ hj hr
  · intro B i v hv hB
    have : B ≠ w.heap.size := by omega
    exact .inl (by simpa [Gh.at, this] using hv)

/-- A new row of cells. -/
theorem HR.alloc_cells {γ : Gh} {K : Heap} {w : World} (h : HR γ K w) {b : Nat} (hb : γ.rho b = none) (hlt : b < K.next) {cs : List AV} (hk : K.blk b = .cells cs) {vs : Array Value}
    (hv : VRs γ cs vs.toList) (h1 : ∀ x, x ∈ cs → one x = true) (t : TypeId) :
    HR (γ.at b (.cells w.heap.size 0 cs.length) w.heap.size fun _ => none) K (w.alloc (.cells vs t)) ∧ Ext γ (K.cut b) w (γ.at b (.cells w.heap.size 0 cs.length) w.heap.size fun _ => none) K (w.alloc (.cells vs t)) := by
  have hn : ∀ j, (w.alloc (.cells vs t)).cell? ⟨w.heap.size, 0 + j, none⟩ = vs[j]? := fun j => by rw [Nat.zero_add]; exact World.cell?_alloc_new w vs t j
  have hf : ∀ j, (w.alloc (.cells vs t)).frozen? ⟨w.heap.size, 0 + j, none⟩ = false := fun j => by rw [Nat.zero_add]; exact World.frozen?_alloc_new w vs t j
  refine h.alloc hb hlt _ _ _ ?_ (fun _ _ _ _ _ _ e => by cases e) (fun _ e => by cases e) (fun i v e => by cases e) (fun _ _ => rfl)
  intro B base ext cs' e hk'
  cases e
  rw [hk] at hk'; cases hk'
  refine ⟨rfl, Nat.le_refl _, fun j x hx => ?_, fun j hj => ?_⟩
  · obtain ⟨v, h1', h2⟩ := hv.get hx
    exact ⟨v, by rw [hn]; simpa using h1', h2, h1 x (List.mem_of_getElem? hx)⟩
  · have : j < vs.size := by have := hv.1; simp at this; omega
    exact ⟨⟨vs[j], by rw [hn]; exact Array.getElem?_eq_getElem this⟩, hf j⟩

/-- A new row whose first cells never change again; the others belong to the right to append. -/
theorem HR.alloc_tok {γ : Gh} {K : Heap} {w : World} (h : HR γ K w) {b : Nat} (hb : γ.rho b = none) (hlt : b < K.next) {sz : Nat} (hk : K.blk b = .tok sz) {xs : List AV} {vs : Array Value} {cap : Nat}
    (h1 : ∀ x, x ∈ xs → ∀ y, y ∈ cellsOf x → one y = true) (hsz : ∀ (i : Nat) (x : AV), xs[i]? = some x → (cellsOf x).length = sz)
    (hv : ∀ (i : Nat) (x : AV) (j : Nat) (y : AV), xs[i]? = some x → (cellsOf x)[j]? = some y → ∃ v, vs[i * sz + j]? = some v ∧ VR γ y v)
    (hcap : xs.length ≤ cap) (hvs : vs.size = cap * sz) (t : TypeId) :
    ∃ γ', HR γ' K (w.alloc (.cells vs t)) ∧ Ext γ (K.cut b) w γ' K (w.alloc (.cells vs t)) ∧ VR γ' (.vs xs (some b)) (.slice (some ⟨w.heap.size, 0, none⟩) xs.length cap) ∧ ∀ j, j ≠ b → γ'.rho j = γ.rho j := by
  have hn : ∀ j, (w.alloc (.cells vs t)).cell? ⟨w.heap.size, j, none⟩ = vs[j]? := fun j => World.cell?_alloc_new w vs t j
  have hf : ∀ j, (w.alloc (.cells vs t)).frozen? ⟨w.heap.size, j, none⟩ = false := fun j => World.frozen?_alloc_new w vs t j
  have key := h.alloc hb hlt (.cells vs t) (.tok w.heap.size 0 xs.length cap sz) (fun i => if i < xs.length * sz then vs[i]? else none)
    (fun _ _ _ _ e => by cases e)
    (fun B base len cap' sz' s e hk' => by
      cases e
      rw [hk] at hk'; cases hk'
      refine ⟨rfl, rfl, fun j h1 h2 => ?_⟩
      have : j < vs.size := by omega
      exact ⟨⟨vs[j], by rw [Nat.zero_add, hn]; exact Array.getElem?_eq_getElem this⟩, by rw [Nat.zero_add]; exact hf j⟩)
    (fun _ e => by cases e)
    (fun i v e => by
      rw [hn]
      split at e
      · exact e
      · cases e)
    (fun i ho => by
      have := (own_tok (γ := γ.at b (.tok w.heap.size 0 xs.length cap sz) w.heap.size _) (H := K) (b := b) (B := w.heap.size) (base := 0) (len := xs.length) (cap := cap) (sz := sz) (by simp [Gh.at]) hk w.heap.size i).1 ho
      have h1 : ¬ i < xs.length * sz := by omega
      simp [h1])
  refine ⟨_, key.1, key.2, ?_, fun j hj => by simp [Gh.at, hj]⟩
  have hin : ∀ i j, i < xs.length → j < sz → i * sz + j < xs.length * sz := fun i j hi hj => by
    have h1 : (i + 1) * sz ≤ xs.length * sz := Nat.mul_le_mul_right _ hi
    rw [Nat.add_mul, Nat.one_mul] at h1
    omega
  refine .vs (sz := sz) (fun i j => vs.getD (i * sz + j) undef) h1 hsz ?_ ?_ hcap (fun t ht => ?_)
  · intro i x j y hx hy
    obtain ⟨v, h1, _⟩ := hv i x j y hx hy
    have hi : i < xs.length := (List.getElem?_eq_some_iff.1 hx).1
    have hj : j < sz := by rw [← hsz i x hx]; exact (List.getElem?_eq_some_iff.1 hy).1
    simp [Gh.at, Nat.zero_add, hin i j hi hj, Array.getD_eq_getD_getElem?, h1]
  · intro i x j y hx hy
    obtain ⟨v, h1, h2⟩ := hv i x j y hx hy
    have := h2.mono key.2.le
    simpa [Array.getD_eq_getD_getElem?, h1] using this
  · cases ht
    exact ⟨sz, fun _ => rfl, by simp [Gh.at]⟩

/-- A new object. -/
theorem HR.alloc_obj {γ : Gh} {K : Heap} {w : World} (h : HR γ K w) {b : Nat} (hb : γ.rho b = none) (hlt : b < K.next) (o : Obj)
    (ho : ∀ γ', γ.Le γ' → ObjR γ' (K.blk b) (some o)) (hno : ∀ (c : Array Value) (e : TypeId) (f : Nat × Nat), o ≠ .cells c e f) :
    HR (γ.at b (.obj w.heap.size) w.heap.size fun _ => none) K (w.alloc o) ∧ Ext γ (K.cut b) w (γ.at b (.obj w.heap.size) w.heap.size fun _ => none) K (w.alloc o) :=
  h.alloc hb hlt _ _ _ (fun _ _ _ _ e => by cases e) (fun _ _ _ _ _ _ e => by cases e) (fun r e => by cases e; exact ⟨rfl, ho, hno⟩) (fun i v e => by cases e) (fun _ _ => rfl)

end Go.AM

/-
  THE ABSTRACT MACHINE, fourth text: the tables against the program; loads; the operations on plain values.
-/
namespace Go.AM

def KR (k : TK) (u : Option TypeDesc) : Prop :=
  match k with
  | .bool => u = some .bool
  | .int k => u = some (.int k)
  | .str => u = some .string
  | .ptr e => u = some (.pointer e)
  | .slice e => u = some (.slice e)
  | .arr n e => u = some (.array n e)
  | .map k e => u = some (.map k e)
  | .struct fs => ∃ f : Array Field, u = some (.struct f) ∧ f.toList.map (fun x => (x.offset, x.type)) = fs
  | .func => ∃ a b c, u = some (.func a b c)
  | .iface => ∃ ms, u = some (.interface ms)
  | .other => ∃ d, u = some d ∧ ∀ ms, d ≠ .interface ms

def isAggK : TK → Bool
  | .struct _ | .arr _ _ => true
  | _ => false

def isScalK : TK → Bool
  | .int _ | .str | .bool => true
  | _ => false

structure TIR (P : Program) (t : Nat) (i : TI) : Prop where
  inf : ∃ inf : TypeInfo, P.info? t = some inf ∧ inf.size = i.size ∧ inf.bytes = i.bytes ∧ (∃ z, inf.zero = some z ∧ ∀ γ, VR γ i.zero z) ∧ (isScalK i.k = true → inf.comparable = true)
  k : KR i.k (P.underlying t)
  agg : i.agg = isAggK i.k
  oth : i.k = .other → ∀ (f : Array Field), P.underlying t ≠ some (.struct f)
  oth2 : i.k = .other → ∀ n e, P.underlying t ≠ some (.array n e)

/-- '==' on two values of a struct's or an array's type whose cells are plain; such a value as a key. -/
structure EqP (P : Program) (t : Nat) (i : TI) : Prop where
  guard : P.eqGuardType P.depth t = false
  eq : ∀ γ (a b : List AV) (xs ys : Array Value) r w, shapeOk i a = true → VRs γ a xs.toList → VRs γ b ys.toList → eqSs a b = some r → (Op.equal t (.agg xs) (.agg ys)).run P w = .ok r w
  key : ∀ γ (a : List AV) (xs : Array Value) e w, shapeOk i a = true → VRs γ a xs.toList → eqSs a a = some true → (Instr.checkKey e 10000 t (.agg xs)).run P w = .ok () w

structure CtxR (C : Ctx) (P : Program) : Prop where
  ti : ∀ t i, C.ti t = some i → TIR P t i
  eqp : ∀ t i, C.ti t = some i → i.eqp = true → EqP P t i
  flds : ∀ t i fs, C.ti t = some i → i.k = .struct fs → ∀ q, q ∈ fs → ∃ j, C.ti q.2 = some j
  fn : ∀ f F, C.fn f = some F → P.funcs[f]? = some F ∧ ∀ args w, (callFunc f args).run P w = .ok (.enter f args) w
  mixed : P.follows .mixedOrders = true
  globF : ∀ g cs, C.glob g = some cs → ∀ x, x ∈ cs → x.Free

structure GR (C : Ctx) (γ : Gh) : Prop where
  esz : ∀ e i, C.ti e = some i → γ.esz e = i.size
  glob : ∀ g cs, C.glob g = some cs → ∀ (j : Nat) (x : AV), cs[j]? = some x → one x = true ∧ ∃ v, γ.lv g j = some v ∧ VR γ x v

theorem GR.mono {C : Ctx} {γ γ' : Gh} (h : GR C γ) (hle : γ.Le γ') : GR C γ' :=
  ⟨fun e i he => by rw [hle.esz]; exact h.esz e i he, fun g cs hg j x hx => let ⟨a, v, b, c⟩ := h.glob g cs hg j x hx; ⟨a, v, hle.lv _ _ _ b, c.mono hle⟩⟩

section
variable {C : Ctx} {P : Program} {γ : Gh} {H : Heap} {w : World}

theorem TIR.info {t : Nat} {i : TI} (h : TIR P t i) : ∃ inf : TypeInfo, P.info? t = some inf ∧ inf.size = i.size ∧ inf.bytes = i.bytes ∧ (∃ z, inf.zero = some z ∧ ∀ γ, VR γ i.zero z) :=
  let ⟨inf, a, b, c, d, _⟩ := h.inf; ⟨inf, a, b, c, d⟩

theorem run_size {t : Nat} {i : TI} (h : TIR P t i) (w : World) : (sizeOf t).run P w = .ok i.size w := by
  obtain ⟨inf, h1, h2, _⟩ := h.info
  simp [sizeOf, typeInfo, h1, h2]

theorem run_zero {t : Nat} {i : TI} (h : TIR P t i) : ∃ z, (∀ w, (zeroValue t).run P w = .ok z w) ∧ ∀ γ, VR γ i.zero z := by
  obtain ⟨inf, h1, _, _, z, h4, h5⟩ := h.info
  exact ⟨z, fun w => by simp [zeroValue, typeInfo, h1, h4], h5⟩

theorem run_under {t : Nat} {d : TypeDesc} (h : P.underlying t = some d) (w : World) : (underlying t).run P w = .ok d w := by
  simp [underlying, h]

theorem run_isAgg' {t : Nat} {i : TI} (h : TIR P t i) (w : World) : (isAgg t).run P w = .ok i.agg w := by
  have hk := h.k
  have ha := h.agg
  cases hik : i.k with
  | struct fs => rw [hik] at hk ha; obtain ⟨f, hf, _⟩ := hk; simp [isAgg, run_under hf, ha, isAggK]
  | arr n e => rw [hik] at hk ha; simp only [KR] at hk; simp [isAgg, run_under hk, ha, isAggK]
  | other =>
    have h1 := h.oth hik
    have h2 := h.oth2 hik
    rw [hik] at hk ha; obtain ⟨d, hd, hn⟩ := hk
    simp only [isAgg, Sem.run_bind, run_under hd, Result.andThen_ok]
    cases d with
    | struct f => exact absurd hd (h1 f)
    | array n e => exact absurd hd (h2 n e)
    | _ => simp [ha, isAggK]
  | func => rw [hik] at hk ha; obtain ⟨a, b, c, hf⟩ := hk; simp [isAgg, run_under hf, ha, isAggK]
  | iface => rw [hik] at hk ha; obtain ⟨ms, hf⟩ := hk; simp [isAgg, run_under hf, ha, isAggK]
  | _ => rw [hik] at hk ha; simp only [KR] at hk; simp [isAgg, run_under hk, ha, isAggK]

theorem add_at (B o n : Nat) : (⟨B, o, none⟩ : Addr).add n = ⟨B, o + n, none⟩ := by
  unfold Addr.add; split <;> simp_all

/-- Cells that are there, as abstract ones say. -/
def Row (γ : Gh) (w : World) (cs : List AV) (B base : Nat) : Prop :=
  ∀ (j : Nat) (x : AV), cs[j]? = some x → ∃ v, w.cell? ⟨B, base + j, none⟩ = some v ∧ VR γ x v ∧ one x = true

theorem Row.sub {cs : List AV} {B base : Nat} (h : Row γ w cs B base) {o n : Nat} {xs : List AV} (hs : sub cs o n = some xs) : Row γ w xs B (base + o) ∧ xs.length = n := by
  unfold AM.sub at hs
  split at hs
  · rename_i hle
    cases hs
    refine ⟨fun j x hx => ?_, by simp; omega⟩
    simp only [List.getElem?_take, List.getElem?_drop] at hx
    split at hx
    · obtain ⟨v, h1, h2⟩ := h (o + j) x hx
      exact ⟨v, by rw [Nat.add_assoc]; exact h1, h2⟩
    · cases hx
  · cases hs

theorem Row.drop {cs : List AV} {B base : Nat} (h : Row γ w cs B base) (o : Nat) : Row γ w (cs.drop o) B (base + o) := fun j x hx => by
  rw [List.getElem?_drop] at hx
  obtain ⟨v, h1, h2⟩ := h (o + j) x hx
  exact ⟨v, by rw [Nat.add_assoc]; exact h1, h2⟩

theorem Row.loadCells {cs : List AV} {B base : Nat} (h : Row γ w cs B base) : ∃ vs : Array Value, (loadCells ⟨B, base, none⟩ cs.length).run P w = .ok vs w ∧ VRs γ cs vs.toList := by
  refine ⟨_, run_loadCells w ⟨B, base, none⟩ cs.length (fun j => (w.cell? ⟨B, base + j, none⟩).getD undef) (fun j hj => ?_), by simp, fun j x v hx hv => ?_⟩
  · obtain ⟨v, h1, _⟩ := h j cs[j] (List.getElem?_eq_getElem hj)
    rw [add_at, h1]; rfl
  · have hj : j < cs.length := (List.getElem?_eq_some_iff.1 hx).1
    obtain ⟨u, h1, h2, _⟩ := h j x hx
    simp [hj, h1] at hv
    rw [← hv]; exact h2

theorem Row.one {cs : List AV} {B base : Nat} (h : Row γ w cs B base) : ∀ x, x ∈ cs → one x = true := fun x hx => by
  obtain ⟨j, hj⟩ := List.getElem?_of_mem hx
  exact (h j x hj).choose_spec.2.2

theorem Row.loadVar {t : Nat} {i : TI} (hi : TIR P t i) {cs : List AV} {B base o : Nat} (h : Row γ w cs B base) {a : AV} (hl : loadL i cs o = some a) :
    ∃ v, (Go.loadVar t ⟨B, base + o, none⟩).run P w = .ok v w ∧ VR γ a v := by
  unfold loadL at hl
  cases ha : i.agg with
  | true =>
    simp only [ha, if_true] at hl
    obtain ⟨xs, hx, rfl⟩ := Option.map_eq_some_iff.1 hl
    obtain ⟨hr, hlen⟩ := h.sub hx
    obtain ⟨vs, h1, h2⟩ := hr.loadCells (P := P)
    refine ⟨.agg vs, ?_, VRs.agg h2 hr.one⟩
    rw [hlen] at h1
    simp [Go.loadVar, run_isAgg' hi, ha, run_size hi, h1]
  | false =>
    simp only [ha, if_false, Bool.false_eq_true] at hl
    obtain ⟨v, h1, h2, _⟩ := h o a hl
    exact ⟨v, by simp [Go.loadVar, run_isAgg' hi, ha, h1], h2⟩

theorem HR.row (h : HR γ H w) {b B base ext : Nat} {cs : List AV} (hr : γ.rho b = some (.cells B base ext)) (hb : H.blk b = .cells cs) : Row γ w cs B base := fun j x hx => (h.cells b B base ext cs hr hb).2.1 j x hx

theorem cells?_some {x : AB} {cs : List AV} (h : x.cells? = some cs) : x = .cells cs := by
  cases x <;> simp [AB.cells?] at h; rw [h]
theorem map?_some {x : AB} {es : List (AV × AV)} (h : x.map? = some es) : x = .map es := by
  cases x <;> simp [AB.map?] at h; rw [h]
theorem loop?_some {x : AB} {l : ALoop} (h : x.loop? = some l) : x = .loop l := by
  cases x <;> simp [AB.loop?] at h; rw [h]

/-- What a pointer to cells points to. -/
theorem ptr_row (h : HR γ H w) {p : AV} {v : Value} (hp : VR γ p v) {b o : Nat} (e : p = .ptr b o) {cs : List AV} (hb : H.blk b = .cells cs) :
    ∃ B base ext, v = .pointer (some ⟨B, base + o, none⟩) ∧ γ.rho b = some (.cells B base ext) ∧ Row γ w cs B base := by
  subst e
  cases hp with
  | ptr o hr => exact ⟨_, _, _, rfl, hr, h.row hr hb⟩

theorem loadA_sound (hC : CtxR C P) (h : HR γ H w) {t : Nat} {p a : AV} {v : Value} (hp : VR γ p v) (hl : loadA C t p H = some a) :
    ∃ u, (Instr.loadAt t v).run P w = .ok u w ∧ VR γ a u := by
  obtain ⟨i, hi, hl⟩ := Option.bind_eq_some_iff.1 hl
  have hT := hC.ti t i hi
  cases p with
  | ptr b o =>
    obtain ⟨cs, hb, hl⟩ := Option.bind_eq_some_iff.1 hl
    obtain ⟨B, base, ext, rfl, _, hr⟩ := ptr_row h hp rfl (cells?_some hb)
    obtain ⟨u, h1, h2⟩ := hr.loadVar hT hl
    exact ⟨u, by simp [Instr.loadAt, Instr.sureAddr, h1], h2⟩
  | vptr cs o =>
    cases hp with
    | @vptr _ B base _ c h1 hlv hv =>
      have hr : Row γ w cs B base := fun j x hx => ⟨c j, h.lock _ _ _ (hlv j x hx), hv j x hx, h1 x (List.mem_of_getElem? hx)⟩
      obtain ⟨u, h1, h2⟩ := hr.loadVar hT hl
      exact ⟨u, by simp [Instr.loadAt, Instr.sureAddr, h1], h2⟩
  | _ => cases hl

end
end Go.AM

/-
  THE ABSTRACT MACHINE, fifth text: the operations without an effect are sound, first part: numbers, strings, equality, addresses.
-/
namespace Go.AM

/-- What is asked of an operation without an effect: the same value; or, of a new block, whatever its number is. -/
def NSound (P : Program) (γ : Gh) (w : World) (r : NR) (s : Sem Next) : Prop :=
  match r with
  | .v a => ∃ v, s.run P w = .ok (.value v) w ∧ VR γ a v
  | .new f x => ∀ K b, HR γ K w → γ.rho b = none → b < K.next → K.blk b = x →
    ∃ v w' γ', s.run P w = .ok (.value v) w' ∧ HR γ' K w' ∧ Ext γ (K.cut b) w γ' K w' ∧ VR γ' (f b) v ∧ ∀ j, j ≠ b → γ'.rho j = γ.rho j

theorem nsound_nv {P : Program} {γ : Gh} {w : World} {o : Option AV} {r : NR} {s : Sem Next} (h : nv o = some r) (hs : ∀ a, o = some a → ∃ v, s.run P w = .ok (.value v) w ∧ VR γ a v) : NSound P γ w r s := by
  obtain ⟨a, ha, rfl⟩ := Option.map_eq_some_iff.1 h
  exact hs a ha

section
variable {C : Ctx} {P : Program} {γ : Gh} {H : Heap} {w : World}

/-! ### Numbers, strings -/
theorem VR.int_inv {k : IntKind} {n : Int} {v : Value} (h : VR γ (.int k n) v) : v = .int k n := by cases h; rfl
theorem VR.bool_inv {b : Bool} {v : Value} (h : VR γ (.bool b) v) : v = .bool b := by cases h; rfl
theorem VR.str_inv {s : List UInt8} {v : Value} (h : VR γ (.str s) v) : ∃ b : ByteArray, v = .string b ∧ b.data.toList = s := by cases h with | str l b h => exact ⟨b, rfl, h⟩

theorem bitsOp_run {op : BinOp} {k : IntKind} {a b n : Int} (h : bitsOp op k a b = some n) : (Op.intBits op k a b).run P w = .ok (.int k n) w := by
  cases op <;> simp only [bitsOp] at h <;> first | (cases h; done) | (cases h; rfl)

theorem bitsOp_is {op : BinOp} {k : IntKind} {a b n : Int} (h : bitsOp op k a b = some n) : op = .and ∨ op = .or ∨ op = .xor ∨ op = .andNot := by
  cases op <;> simp only [bitsOp] at h <;> first | (cases h; done) | simp

theorem arith_run {op : BinOp} {t : Nat} {k k' : IntKind} {a b : Int} {r : AV} (hk : (isShift op || k == k') = true) (h : arith op k a b = some r) :
    ∃ v, (binOp op t (.int k a) (.int k' b)).run P w = .ok v w ∧ VR γ r v := by
  cases op <;> simp only [arith, isShift, Bool.false_or, beq_iff_eq] at h hk
  case shl => split at h <;> cases h; rename_i hb; refine ⟨_, ?_, .int _ _⟩; simp [binOp, Op.shift, hb]
  case shr => split at h <;> cases h; rename_i hb; refine ⟨_, ?_, .int _ _⟩; simp [binOp, Op.shift, hb]
  case quo => split at h <;> cases h; rename_i hb; subst hk; refine ⟨_, ?_, .int _ _⟩; simp [binOp, Op.intDiv, hb]
  case rem => split at h <;> cases h; rename_i hb; subst hk; refine ⟨_, ?_, .int _ _⟩; simp [binOp, Op.intDiv, hb]
  case and => subst hk; obtain ⟨n, hn, rfl⟩ := Option.map_eq_some_iff.1 h; refine ⟨_, ?_, .int _ _⟩; simp only [binOp, ne_eq, not_true, if_false]; exact bitsOp_run hn
  case or => subst hk; obtain ⟨n, hn, rfl⟩ := Option.map_eq_some_iff.1 h; refine ⟨_, ?_, .int _ _⟩; simp only [binOp, ne_eq, not_true, if_false]; exact bitsOp_run hn
  case xor => subst hk; obtain ⟨n, hn, rfl⟩ := Option.map_eq_some_iff.1 h; refine ⟨_, ?_, .int _ _⟩; simp only [binOp, ne_eq, not_true, if_false]; exact bitsOp_run hn
  case andNot => subst hk; obtain ⟨n, hn, rfl⟩ := Option.map_eq_some_iff.1 h; refine ⟨_, ?_, .int _ _⟩; simp only [binOp, ne_eq, not_true, if_false]; exact bitsOp_run hn
  all_goals (subst hk; cases h; first | (refine ⟨_, ?_, .int _ _⟩; simp [binOp, Op.intArith, Op.intCmp]; done) | (refine ⟨_, ?_, .bool _⟩; simp [binOp, Op.intArith, Op.intCmp]))

theorem less_eq : ∀ x y : List UInt8, Op.bytesLess x y = less x y
  | [], [] => rfl
  | [], _ :: _ => rfl
  | _ :: _, [] => rfl
  | a :: x, b :: y => by simp only [Op.bytesLess, less, less_eq x y]

theorem toList_data (b : ByteArray) : b.toList = b.data.toList := by
  have key : ∀ (n i : Nat) (r : List UInt8), b.size - i = n → ByteArray.toList.loop b i r = r.reverse ++ b.data.toList.drop i := by
    intro n
    induction n with
    | zero =>
      intro i r h
      unfold ByteArray.toList.loop
      have : ¬ i < b.size := by omega
      simp only [this, if_false]
      rw [List.drop_eq_nil_of_le (by show b.data.toList.length ≤ i; simp; exact Nat.le_of_not_lt this)]
      simp
    | succ n ih =>
      intro i r h
      unfold ByteArray.toList.loop
      have hi : i < b.size := by omega
      simp only [hi, if_true]
      rw [ih (i + 1) _ (by omega)]
      have hl : i < b.data.toList.length := by simpa using hi
      rw [List.drop_eq_getElem_cons hl]
      simp [ByteArray.get!, getElem!_pos, hi]
  unfold ByteArray.toList
  rw [key b.size 0 [] (by omega)]
  simp

theorem strOp_run {op : BinOp} {a b : ByteArray} {r : AV} (h : strOp op a.data.toList b.data.toList = some r) : ∃ v, (Op.stringOp op a b).run P w = .ok v w ∧ VR γ r v := by
  cases op <;> simp only [strOp] at h
  case add =>
    split at h <;> cases h
    rename_i hl
    have h1 : ¬ ((a.size : Int) + (b.size : Int) > 9223372036854775807) := by
      have e1 : a.data.toList.length = a.size := by simp
      have e2 : b.data.toList.length = b.size := by simp
      omega
    refine ⟨.string (a ++ b), ?_, .str _ _ (by simp)⟩
    have e : IntKind.i64.max = 9223372036854775807 := by decide
    simp only [Op.stringOp, e]
    rw [if_neg (by simpa using h1)]
    rfl
  all_goals first
    | (cases h; done)
    | (cases h; refine ⟨_, ?_, .bool _⟩; simp only [Op.stringOp, toList_data, less_eq]; rfl)

theorem str_beq (a b : ByteArray) : (a == b) = (a.data.toList == b.data.toList) := by
  show (a.data == b.data) = _
  rw [Bool.eq_iff_iff]
  simp [← Array.toList_inj]

/-! ### Equality -/
theorem KR.of {t : Nat} {i : TI} (h : TIR P t i) {k : TK} (hk : i.k = k) : KR k (P.underlying t) := hk ▸ h.k

theorem of_deep {t : Nat} {x y : Value} {r : Bool} (h : ∀ d, (Op.equalIn (d + 2) t x y).run P w = .ok r w) : (Op.equal t x y).run P w = .ok r w := h 9998

theorem guard_scal {op : BinOp} {t : Nat} {x y : Operand} {a b : Value} (ha : ∀ c, a ≠ .agg c) (hn : a = .nilIface → b = .nilIface → (isConst x || isConst y) = true) : (eqGuard op t x y a b).run P w = .ok () w := by
  cases op <;> first
    | (simp [eqGuard]; done)
    | (cases a <;> first
        | (simp [eqGuard]; done)
        | exact absurd rfl (ha _)
        | (cases b <;> first
            | (simp [eqGuard]; done)
            | (have := hn rfl rfl
               cases x <;> cases y <;> first | (simp [isConst] at this; done) | simp [eqGuard])))

theorem guard_agg {op : BinOp} {t : Nat} {x y : Operand} {a b : Array Value} (h : P.eqGuardType P.depth t = false) : (eqGuard op t x y (.agg a) (.agg b)).run P w = .ok () w := by
  cases op <;> simp [eqGuard, h]

set_option maxHeartbeats 2000000 in
theorem eqlV_run (hC : CtxR C P) {t : Nat} {cx : Bool} {x y : AV} {r : Bool} {u v : Value} (hx : VR γ x u) (hy : VR γ y v) (h : eqlV C t cx x y = some r) :
    (Op.equal t u v).run P w = .ok r w ∧ ((∃ a b, u = .agg a ∧ v = .agg b ∧ P.eqGuardType P.depth t = false) ∨ ((∀ c, u ≠ .agg c) ∧ (u = .nilIface → v = .nilIface → cx = true))) := by
  rw [eqlV, Option.bind_eq_some_iff] at h
  obtain ⟨i, hi, h⟩ := h
  have hT := hC.ti t i hi
  have hK := hT.k
  split at h
  case h_1 hk => rw [hk] at hK; cases hx; cases hy; cases h; exact ⟨of_deep fun d => by simp [Op.equalIn, run_under hK], .inr ⟨by simp, by simp⟩⟩
  case h_2 hk =>
    split at h
    · rename_i he
      rw [Bool.and_eq_true] at he
      obtain ⟨a, rfl, ha, _⟩ := hx.agg_inv
      obtain ⟨b, rfl, hb, _⟩ := hy.agg_inv
      have hq := hC.eqp t i hi he.1
      exact ⟨hq.eq γ _ _ a b r w he.2 ha hb h, .inl ⟨a, b, rfl, rfl, hq.guard⟩⟩
    · cases h
  case h_3 hk =>
    split at h
    · rename_i he
      rw [Bool.and_eq_true] at he
      obtain ⟨a, rfl, ha, _⟩ := hx.agg_inv
      obtain ⟨b, rfl, hb, _⟩ := hy.agg_inv
      have hq := hC.eqp t i hi he.1
      exact ⟨hq.eq γ _ _ a b r w he.2 ha hb h, .inl ⟨a, b, rfl, rfl, hq.guard⟩⟩
    · cases h
  case h_4 hk =>
    rw [hk] at hK; obtain ⟨ms, hK⟩ := hK
    cases hx; cases hy
    split at h <;> cases h
    rename_i hc
    exact ⟨of_deep fun d => by simp [Op.equalIn, run_under hK], .inr ⟨by simp, fun _ _ => hc⟩⟩
  case h_5 hk =>
    rw [hk] at hK; obtain ⟨ms, hK⟩ := hK
    cases hx; cases hy; cases h
    exact ⟨of_deep fun d => by simp [Op.equalIn, run_under hK], .inr ⟨by simp, by simp⟩⟩
  case h_6 hk =>
    rw [hk] at hK; obtain ⟨ms, hK⟩ := hK
    cases hx; cases hy; cases h
    exact ⟨of_deep fun d => by simp [Op.equalIn, run_under hK], .inr ⟨by simp, by simp⟩⟩
  case h_7 hk =>
    rw [hk] at hK; obtain ⟨ms, hK⟩ := hK
    cases hx with
    | iface ta hx =>
    cases hy with
    | iface tb hy =>
    refine ⟨?_, .inr ⟨by simp, by simp⟩⟩
    split at h
    · rename_i hne
      cases h
      exact of_deep fun d => by simp [Op.equalIn, run_under hK, hne]
    · rename_i hne
      have hab := Decidable.not_not.1 hne
      subst hab
      rw [Option.bind_eq_some_iff] at h
      obtain ⟨j, hj, h⟩ := h
      have hJ := hC.ti _ j hj
      obtain ⟨inf, h1, _, _, _, h5⟩ := hJ.inf
      have hKJ := hJ.k
      split at h
      · rename_i hk'
        rw [hk'] at hKJ h5
        have hc := h5 rfl
        cases hx; cases hy
        split at h <;> cases h
        rename_i hkk
        exact of_deep fun d => by simp [Op.equalIn, run_under hK, typeInfo, h1, hc, run_under hKJ, hkk]
      · rename_i hk'
        rw [hk'] at hKJ h5
        have hc := h5 rfl
        cases hx with
        | str _ s1 e1 =>
        cases hy with
        | str _ s2 e2 =>
        cases h
        have := str_beq s1 s2
        rw [e1, e2] at this
        exact of_deep fun d => by simp [Op.equalIn, run_under hK, typeInfo, h1, hc, run_under hKJ, this]
      · rename_i hk'
        rw [hk'] at hKJ h5
        have hc := h5 rfl
        cases hx; cases hy; cases h
        exact of_deep fun d => by simp [Op.equalIn, run_under hK, typeInfo, h1, hc, run_under hKJ]
      · cases h
  all_goals first
    | (cases h; done)
    | skip
  all_goals
    rename_i hk
    rw [hk] at hK
    first
      | (obtain ⟨a1, a2, a3, hK⟩ := hK; cases hx <;> cases hy <;> cases h <;> exact ⟨of_deep fun d => by simp [Op.equalIn, run_under hK], .inr ⟨by simp, by simp⟩⟩)
      | (cases hx <;> cases hy <;> cases h <;> exact ⟨of_deep fun d => by simp [Op.equalIn, run_under hK], .inr ⟨by simp, by simp⟩⟩)

end
end Go.AM

/-
  THE ABSTRACT MACHINE, sixth text: the operations without an effect are sound, second part: addresses, elements, slices, strings.
-/
namespace Go.AM
section
variable {C : Ctx} {P : Program} {γ : Gh} {H : Heap} {w : World}

theorem natOf_inv {x : AV} {n : Nat} {v : Value} (h : natOf x = some n) (hv : VR γ x v) : ∃ k, v = .int k n := by
  unfold natOf at h
  split at h
  · cases h; exact ⟨_, hv.int_inv⟩
  · cases h

theorem addPtr_inv {p q : AV} {n : Nat} {v : Value} (h : addPtr p n = some q) (hv : VR γ p v) : ∃ B o, v = .pointer (some ⟨B, o, none⟩) ∧ VR γ q (.pointer (some ⟨B, o + n, none⟩)) := by
  unfold addPtr at h
  split at h
  · cases h
    cases hv with
    | ptr o hr => exact ⟨_, _, rfl, by rw [Nat.add_assoc]; exact .ptr _ hr⟩
  · cases h
    cases hv with
    | vptr o c h1 hl hv => exact ⟨_, _, rfl, by rw [Nat.add_assoc]; exact .vptr _ c h1 hl hv⟩
  · cases h

theorem struct?_some {i : TI} {fs : List (Nat × Nat)} (h : i.struct? = some fs) : i.k = .struct fs := by
  unfold TI.struct? at h
  split at h
  · rename_i hk; cases h; exact hk
  · cases h
theorem slice?_some {i : TI} {e : Nat} (h : i.slice? = some e) : i.k = .slice e := by
  unfold TI.slice? at h
  split at h
  · rename_i hk; cases h; exact hk
  · cases h
theorem map?'_some {i : TI} {ke : Nat × Nat} (h : i.map? = some ke) : i.k = .map ke.1 ke.2 := by
  unfold TI.map? at h
  split at h
  · rename_i hk; cases h; exact hk
  · cases h
theorem sizeT_run (hC : CtxR C P) {t s : Nat} (h : sizeT C t = some s) (w : World) : (sizeOf t).run P w = .ok s w := by
  obtain ⟨i, hi, rfl⟩ := Option.map_eq_some_iff.1 h
  exact run_size (hC.ti t i hi) w

theorem field_of {f : Array Field} {fs : List (Nat × Nat)} (h : f.toList.map (fun x => (x.offset, x.type)) = fs) {i : Nat} {q : Nat × Nat} (hq : fs[i]? = some q) : ∃ x, f[i]? = some x ∧ x.offset = q.1 ∧ x.type = q.2 := by
  subst h
  rw [List.getElem?_map, Option.map_eq_some_iff] at hq
  obtain ⟨x, hx, rfl⟩ := hq
  exact ⟨x, by simpa using hx, rfl, rfl⟩

theorem fieldAddrA_sound (hC : CtxR C P) {t f : Nat} {p q : AV} {v : Value} (hp : VR γ p v) (h : fieldAddrA C t p f = some q) : ∃ u, (Instr.fieldAt t v f).run P w = .ok u w ∧ VR γ q u := by
  rw [fieldAddrA, Option.bind_eq_some_iff] at h
  obtain ⟨i, hi, h⟩ := h
  rw [Option.bind_eq_some_iff] at h
  obtain ⟨fs, hfs, h⟩ := h
  rw [Option.bind_eq_some_iff] at h
  obtain ⟨os, hos, h⟩ := h
  have hK := KR.of (hC.ti t i hi) (struct?_some hfs)
  obtain ⟨fl, hu, hfl⟩ := hK
  rw [placeS, Option.bind_eq_some_iff] at hos
  obtain ⟨q', hq', hos⟩ := hos
  obtain ⟨s, hs, rfl⟩ := Option.map_eq_some_iff.1 hos
  obtain ⟨x, hx, hxo, hxt⟩ := field_of hfl hq'
  split at h
  · cases h
  · rename_i hne
    obtain ⟨B, o, rfl, h2⟩ := addPtr_inv h hp
    refine ⟨_, ?_, h2⟩
    have hsz := sizeT_run hC hs w
    rw [← hxt] at hsz
    simp [Instr.fieldAt, run_under hu, hx, Instr.sureAddr, fieldPlace, hsz, hne, add_at, hxo]

theorem part_sound {i : TI} {t : Nat} (hT : TIR P t i) {cs : List AV} {vs : Array Value} (h : VRs γ cs vs.toList) (h1 : ∀ x, x ∈ cs → one x = true) {o : Nat} {a : AV} (hl : loadL i cs o = some a) :
    ∃ u, (part t vs o).run P w = .ok u w ∧ VR γ a u := by
  unfold loadL at hl
  cases ha : i.agg with
  | true =>
    simp only [ha, if_true] at hl
    obtain ⟨xs, hx, rfl⟩ := Option.map_eq_some_iff.1 hl
    unfold sub at hx
    split at hx <;> cases hx
    rename_i hle
    refine ⟨.agg (vs.extract o (o + i.size)), by simp [part, run_isAgg' hT, ha, run_size hT], VRs.agg ?_ (fun x hx => h1 x (List.mem_of_mem_drop (List.mem_of_mem_take hx)))⟩
    have := (h.drop o).take i.size
    rw [show (vs.extract o (o + i.size)).toList = (vs.toList.drop o).take i.size from by simp [List.drop_take, Nat.add_sub_cancel_left]]
    exact this
  | false =>
    simp only [ha, if_false, Bool.false_eq_true] at hl
    obtain ⟨v, hv, h2⟩ := h.get hl
    have hv' : vs[o]? = some v := by simpa using hv
    exact ⟨v, by simp [part, run_isAgg' hT, ha, hv'], h2⟩

theorem fieldA_sound (hC : CtxR C P) {t f : Nat} {x a : AV} {v : Value} (hx : VR γ x v) (h : fieldA C t x f = some a) : ∃ u, (Instr.field t v f).run P w = .ok u w ∧ VR γ a u := by
  rw [fieldA, Option.bind_eq_some_iff] at h
  obtain ⟨i, hi, h⟩ := h
  rw [Option.bind_eq_some_iff] at h
  obtain ⟨fs, hfs, h⟩ := h
  obtain ⟨fl, hu, hfl⟩ := KR.of (hC.ti t i hi) (struct?_some hfs)
  split at h
  · rw [Option.bind_eq_some_iff] at h
    obtain ⟨q, hq, h⟩ := h
    rw [Option.bind_eq_some_iff] at h
    obtain ⟨j, hj, h⟩ := h
    obtain ⟨vs, rfl, h2, h3⟩ := hx.agg_inv
    obtain ⟨y, hy, hyo, hyt⟩ := field_of hfl hq
    obtain ⟨u, h4, h5⟩ := part_sound (P := P) (w := w) (hC.ti _ j hj) h2 h3 h
    refine ⟨u, ?_, h5⟩
    simp [Instr.field, run_under hu, hy, asAgg, hyo, hyt, h4]
  · cases h

theorem indexAddrA_sound (hC : CtxR C P) (hg : GR C γ) {t : Nat} {x ix a : AV} {v vi : Value} (hx : VR γ x v) (hix : VR γ ix vi) (h : indexAddrA C t x ix = some a) :
    ∃ u, (Instr.indexAt t v vi).run P w = .ok u w ∧ VR γ a u := by
  rw [indexAddrA, Option.bind_eq_some_iff] at h
  obtain ⟨n, hn, h⟩ := h
  rw [Option.bind_eq_some_iff] at h
  obtain ⟨i, hi, h⟩ := h
  obtain ⟨k, rfl⟩ := natOf_inv hn hix
  have hT := hC.ti t i hi
  split at h
  · rename_i hk
    have hK := KR.of hT hk
    rw [Option.bind_eq_some_iff] at h
    obtain ⟨s, hs, h⟩ := h
    split at h
    · rename_i hlt
      obtain ⟨B, o, rfl, h2⟩ := addPtr_inv h hx
      refine ⟨_, ?_, h2⟩
      simp only [KR] at hK
      simp [Instr.indexAt, asIntOf, run_under hK, Instr.sureAddr, sizeT_run hC hs, add_at, hlt]
    · cases h
  · rename_i hk
    have hK := KR.of hT hk
    simp only [KR] at hK
    rw [Option.bind_eq_some_iff] at h
    obtain ⟨s, hs, h⟩ := h
    rw [Option.bind_eq_some_iff] at h
    obtain ⟨y, hy, h⟩ := h
    split at h
    · rename_i hys
      cases h
      cases hx with
      | @vs xs _ B base cap sz c h1 hsz hlv hv hcap htok =>
        have hlt := (List.getElem?_eq_some_iff.1 hy).1
        have hsz' : sz = s := (hsz n y hy).symm.trans hys
        subst hsz'
        refine ⟨.pointer (some ⟨B, base + n * sz, none⟩), by simp [Instr.indexAt, asIntOf, run_under hK, sizeT_run hC hs, add_at, hlt], ?_⟩
        have := VR.vptr (γ := γ) (cs := cellsOf y) (B := B) (base := base + n * sz) 0 (fun j => c n j) (fun z hz => h1 y (List.mem_of_getElem? hy) z hz) (fun j z hz => hlv n y j z hy hz) (fun j z hz => hv n y j z hy hz)
        simpa using this
    · cases h
  · rename_i hk
    have hK := KR.of hT hk
    simp only [KR] at hK
    rw [Option.bind_eq_some_iff] at h
    obtain ⟨s, hs, h⟩ := h
    split at h
    · rename_i hlt
      cases h
      cases hx with
      | rs o len e hr hcap hext =>
        refine ⟨_, ?_, .ptr _ hr⟩
        simp [Instr.indexAt, asIntOf, run_under hK, sizeT_run hC hs, add_at, hlt, Nat.add_assoc]
    · cases h
  · cases h

theorem indexA_sound (hC : CtxR C P) {t : Nat} {x ix a : AV} {v vi : Value} (hx : VR γ x v) (hix : VR γ ix vi) (h : indexA C t x ix = some a) :
    ∃ u, (Instr.index t v vi).run P w = .ok u w ∧ VR γ a u := by
  rw [indexA, Option.bind_eq_some_iff] at h
  obtain ⟨n, hn, h⟩ := h
  rw [Option.bind_eq_some_iff] at h
  obtain ⟨i, hi, h⟩ := h
  obtain ⟨k, rfl⟩ := natOf_inv hn hix
  have hT := hC.ti t i hi
  split at h
  · rename_i hk
    have hK := KR.of hT hk
    simp only [KR] at hK
    rw [Option.bind_eq_some_iff] at h
    obtain ⟨j, hj, h⟩ := h
    split at h
    · rename_i hlt
      obtain ⟨vs, rfl, h2, h3⟩ := hx.agg_inv
      obtain ⟨u, h4, h5⟩ := part_sound (P := P) (w := w) (hC.ti _ j hj) h2 h3 h
      exact ⟨u, by simp [Instr.index, asIntOf, run_under hK, asAgg, run_size (hC.ti _ j hj), hlt, h4], h5⟩
    · cases h
  · rename_i hk
    have hK := KR.of hT hk
    simp only [KR] at hK
    obtain ⟨c, hc, rfl⟩ := Option.map_eq_some_iff.1 h
    obtain ⟨b, rfl, hb⟩ := hx.str_inv
    subst hb
    have hlt : n < b.size := by have := (List.getElem?_eq_some_iff.1 hc).1; simpa using this
    have hc' : b[n]? = some c := by
      rw [getElem?_pos b n hlt]
      have h2 := (List.getElem?_eq_some_iff.1 hc).2
      rw [← h2]; rfl
    exact ⟨_, by simp [Instr.index, asIntOf, run_under hK, hc'], .int _ _⟩
  · cases h

end
end Go.AM

/-
  THE ABSTRACT MACHINE, seventh text: the operations without an effect are sound, third part: slices of slices and strings.
-/
namespace Go.AM
section
variable {C : Ctx} {P : Program} {γ : Gh} {H : Heap} {w : World}

def VRo (γ : Gh) (o : Option AV) (p : Option Value) : Prop :=
  match o, p with
  | none, none => True
  | some a, some v => VR γ a v
  | _, _ => False

theorem VRo.map {ρ : Operand → AV} {σ : Operand → Value} (h : ∀ x, VR γ (ρ x) (σ x)) (o : Option Operand) : VRo γ (o.map ρ) (o.map σ) := by
  cases o with
  | none => trivial
  | some x => exact h x

theorem sliceBound_run {x : AV} {v : Value} {n y : Nat} {code : BoundsCode} (h : natOf x = some n) (hv : VR γ x v) (hle : n ≤ y) : (Instr.sliceBound v y code).run P w = .ok n w := by
  obtain ⟨k, rfl⟩ := natOf_inv h hv
  have : (n : Int) ≤ (y : Int) := by exact_mod_cast hle
  simp [Instr.sliceBound, asIntOf, this]

theorem bounds_run {isS : Bool} {len cap l h : Nat} {lo hi : Option AV} {lo' hi' : Option Value} (hl : VRo γ lo lo') (hh : VRo γ hi hi') (h1 : boundOf lo 0 = some l) (h2 : boundOf hi len = some h)
    (hlh : l ≤ h) (hc : h ≤ cap) : (Instr.sliceBounds isS len cap lo' hi' none).run P w = .ok (l, h, cap) w := by
  cases hi with
  | none => cases hi' with
    | some v => exact hh.elim
    | none =>
      simp only [boundOf, Option.some.injEq] at h2
      subst h2
      cases lo with
      | none => cases lo' with
        | some v => exact hl.elim
        | none => simp only [boundOf, Option.some.injEq] at h1; subst h1; simp [Instr.sliceBounds]
      | some a => cases lo' with
        | none => exact hl.elim
        | some v =>
          simp only [boundOf] at h1
          have e1 := fun code => sliceBound_run (P := P) (w := w) (code := code) h1 hl hlh
          simp [Instr.sliceBounds, e1]
  | some b => cases hi' with
    | none => exact hh.elim
    | some u =>
      simp only [boundOf] at h2
      have e2 := fun code => sliceBound_run (P := P) (w := w) (code := code) h2 hh hc
      cases lo with
      | none => cases lo' with
        | some v => exact hl.elim
        | none => simp only [boundOf, Option.some.injEq] at h1; subst h1; simp [Instr.sliceBounds, e2]
      | some a => cases lo' with
        | none => exact hl.elim
        | some v =>
          simp only [boundOf] at h1
          have e1 := fun code => sliceBound_run (P := P) (w := w) (code := code) h1 hl hlh
          simp [Instr.sliceBounds, e1, e2]

theorem bounds3_run {len cap l h m : Nat} {lo : Option AV} {lo' : Option Value} {a : AV} {va : Value} {b : AV} {vb : Value} (hl : VRo γ lo lo') (ha : VR γ a va) (hb : VR γ b vb) (h1 : boundOf lo 0 = some l)
    (h2 : natOf a = some h) (h3 : natOf b = some m) (hlh : l ≤ h) (hm : h ≤ m) (hc : m ≤ cap) : (Instr.sliceBounds true len cap lo' (some va) (some vb)).run P w = .ok (l, h, m) w := by
  have e2 := fun code => sliceBound_run (P := P) (w := w) (code := code) h2 ha hm
  have e3 := fun code => sliceBound_run (P := P) (w := w) (code := code) h3 hb hc
  cases lo with
  | none => cases lo' with
    | some v => exact hl.elim
    | none => simp only [boundOf, Option.some.injEq] at h1; subst h1; simp [Instr.sliceBounds, e2, e3]
  | some a => cases lo' with
    | none => exact hl.elim
    | some v =>
      simp only [boundOf] at h1
      have e1 := fun code => sliceBound_run (P := P) (w := w) (code := code) h1 hl hlh
      simp [Instr.sliceBounds, e1, e2, e3]

theorem vs_empty {B base cap : Nat} : VR γ (.vs [] none) (.slice (some ⟨B, base, none⟩) 0 cap) :=
  .vs (sz := 0) (fun _ _ => undef) (fun _ h => by simp at h) (fun i x h => by simp at h) (fun i x j y h => by simp at h) (fun i x j y h => by simp at h) (Nat.zero_le _) (fun t h => by cases h)

/-- A part of a list that lies in memory. -/
theorem vs_part {xs : List AV} {tok : Option Nat} {B base cap : Nat} {s : Nat} (hx : VR γ (.vs xs tok) (.slice (some ⟨B, base, none⟩) xs.length cap)) (hs : headSize xs s = true) {l h : Nat} (hlh : l ≤ h) (hh : h ≤ xs.length) (hl : l < h ∨ l ≤ cap)
    {tok' : Option Nat} {cap' : Nat} (hcap' : h - l ≤ cap') (ht : ∀ t, tok' = some t → γ.rho t = some (.tok B (base + l * s) (h - l) cap' s)) :
    VR γ (.vs ((xs.drop l).take (h - l)) tok') (.slice (some ⟨B, base + l * s, none⟩) (h - l) cap') := by
  have hlen : ((xs.drop l).take (h - l)).length = h - l := by simp; omega
  cases hx with
  | @vs _ _ _ _ _ sz c h1 hsz hlv hv hcap htok =>
    have hget : ∀ (i : Nat) (x : AV), ((xs.drop l).take (h - l))[i]? = some x → xs[l + i]? = some x := fun i x hx => by
      simp only [List.getElem?_take, List.getElem?_drop] at hx
      split at hx
      · exact hx
      · cases hx
    have hss : xs ≠ [] → sz = s := fun hne => by
      cases xs with
      | nil => exact absurd rfl hne
      | cons x r =>
        have := hsz 0 x rfl
        simp only [headSize, beq_iff_eq] at hs
        omega
    have hne : ∀ (i : Nat) (x : AV), ((xs.drop l).take (h - l))[i]? = some x → xs ≠ [] := fun i x hx e => by subst e; simp at hx
    rw [← hlen] at hcap' ht
    suffices key : VR γ (.vs ((xs.drop l).take (h - l)) tok') (.slice (some ⟨B, base + l * s, none⟩) ((xs.drop l).take (h - l)).length cap') by rw [hlen] at key; exact key
    refine .vs (sz := s) (fun i j => c (l + i) j) (fun x hx => h1 x (List.mem_of_mem_drop (List.mem_of_mem_take hx))) (fun i x hx => ?_) (fun i x j y hx hy => ?_) (fun i x j y hx hy => hv (l + i) x j y (hget i x hx) hy) hcap'
      (fun t h => ⟨s, fun _ => rfl, ht t h⟩)
    · rw [← hss (hne i x hx)]; exact hsz (l + i) x (hget i x hx)
    · have := hlv (l + i) x j y (hget i x hx) hy
      rw [hss (hne i x hx)] at this
      rw [show base + l * s + i * s + j = base + (l + i) * s + j from by rw [Nat.add_mul]; omega]
      exact this

/-- A right to append at a slice that has no spare place. -/
theorem HR.at_free {K : Heap} (h : HR γ K w) {b B base len sz : Nat} (hb : γ.rho b = none) (hlt : b < K.next) (hk : K.blk b = .tok sz) :
    HR (γ.at b (.tok B base len len sz) w.heap.size fun _ => none) K w ∧ Ext γ (K.cut b) w (γ.at b (.tok B base len len sz) w.heap.size fun _ => none) K w := by
  have hlv0 : ∀ i v, γ.lv w.heap.size i ≠ some v := fun i v hv => by have := cell_lt (h.lock _ _ _ hv); omega
  have hlve : ∀ B' i, (γ.at b (.tok B base len len sz) w.heap.size fun _ => none).lv B' i = γ.lv B' i := fun B' i => by
    by_cases e : B' = w.heap.size
    · subst e
      simp only [Gh.at, if_true]
      cases hv : γ.lv w.heap.size i with
      | none => rfl
      | some v => exact absurd hv (hlv0 i v)
    · simp [Gh.at, e]
  have hold : ∀ j q, j ≠ b → (γ.at b (.tok B base len len sz) w.heap.size fun _ => none).rho j = some q → γ.rho j = some q := fun j q hj hq => by simpa [Gh.at, hj] using hq
  have hat : (γ.at b (.tok B base len len sz) w.heap.size fun _ => none).rho b = some (.tok B base len len sz) := by simp [Gh.at]
  have hle : γ.Le (γ.at b (.tok B base len len sz) w.heap.size fun _ => none) :=
    ⟨fun j q hq => by
      have : j ≠ b := fun e => by rw [e, hb] at hq; cases hq
      simp [Gh.at, this, hq], fun B' i v hv => by rw [hlve]; exact hv, rfl⟩
  have hown : ∀ j B' i, own (γ.at b (.tok B base len len sz) w.heap.size fun _ => none) K j B' i → own γ K j B' i := fun j B' i ho => by
    by_cases hj : j = b
    · subst hj
      have := (own_tok hat hk B' i).1 ho
      omega
    · simpa [own, Gh.at, hj] using ho
  refine ⟨⟨?_, ?_, ?_, ?_, ?_, ?_, ?_, ?_⟩, ⟨hle, Nat.le_refl _, Nat.le_of_lt hlt, fun _ _ _ _ => rfl, fun _ _ _ _ => rfl, fun _ c _ _ h => ⟨c, h, rfl⟩, fun j B' i ho _ => ⟨j, hown _ _ _ ho⟩, ?_, fun B' i v hv _ => .inl (by rw [hlve] at hv; exact hv), fun j hj => by
    have : j ≠ b := Nat.ne_of_lt hj
    simp [Gh.at, this], rfl, rfl⟩⟩
  · intro j hj
    have : j ≠ b := by omega
    simp [Gh.at, this, h.fresh j hj]
  · intro j B' base' ext cs hr hk'
    have hj : j ≠ b := fun e => by subst e; rw [hat] at hr; cases hr
    obtain ⟨h2, h3, h4⟩ := h.cells j B' base' ext cs (hold _ _ hj hr) hk'
    exact ⟨h2, fun i x hx => let ⟨v, a1, a2, a3⟩ := h3 i x hx; ⟨v, a1, a2.mono hle, a3⟩, h4⟩
  · intro j B' base' len' cap' sz' s hr hk'
    by_cases hj : j = b
    · subst hj; rw [hat] at hr; cases hr
      rw [hk] at hk'; cases hk'
      exact ⟨rfl, fun i h1 h2 => by omega⟩
    · exact h.toks j B' base' len' cap' sz' s (hold _ _ hj hr) hk'
  · intro j r hr
    have hj : j ≠ b := fun e => by subst e; rw [hat] at hr; cases hr
    obtain ⟨h1, h2, h3⟩ := h.objs j r (hold _ _ hj hr)
    exact ⟨h1, h2.mono hle, h3⟩
  · intro B' i v hv; rw [hlve] at hv; exact h.lock _ _ _ hv
  · exact fun j j' B' i h1 h2 => h.d1 j j' B' i (hown _ _ _ h1) (hown _ _ _ h2)
  · exact fun j B' i h1 => by rw [hlve]; exact h.d2 _ _ _ (hown _ _ _ h1)
  · intro j j' r h1 h2
    have hj : j ≠ b := fun e => by subst e; rw [hat] at h1; cases h1
    have hj' : j' ≠ b := fun e => by subst e; rw [hat] at h2; cases h2
    exact h.d3 j j' r (hold _ _ hj h1) (hold _ _ hj' h2)
  · intro j r hr _
    have hj : j ≠ b := fun e => by subst e; rw [hat] at hr; cases hr
    exact hold _ _ hj hr

theorem run_sliceAt {t e : Nat} {v : Value} {lo hi mx : Option Value} (h : P.underlying t = some (.slice e)) : (Instr.sliceAt t v lo hi mx).run P w = (Instr.slice t v lo hi mx).run P w := by
  simp [Instr.sliceAt, run_under h]
theorem run_sliceAt_str {t : Nat} {v : Value} {lo hi mx : Option Value} (h : P.underlying t = some .string) : (Instr.sliceAt t v lo hi mx).run P w = (Instr.slice t v lo hi mx).run P w := by
  simp [Instr.sliceAt, run_under h]

theorem sliceA_sound (hC : CtxR C P) (hg : GR C γ) (hH : HR γ H w) {t : Nat} {x : AV} {lo hi mx : Option AV} {v : Value} {lo' hi' mx' : Option Value} (hx : VR γ x v) (hl : VRo γ lo lo') (hh : VRo γ hi hi') (hm : VRo γ mx mx') {r : NR}
    (h : sliceA C t x lo hi mx H = some r) (s : Sem Next) (hs : ∀ w, s.run P w = ((Instr.sliceAt t v lo' hi' mx').run P w).andThen fun u w => .ok (.value u) w) : NSound P γ w r s := by
  rw [sliceA, Option.bind_eq_some_iff] at h
  obtain ⟨i, hi0, h⟩ := h
  have hT := hC.ti t i hi0
  split at h
  · -- a string
    rename_i hk
    have hK := KR.of hT hk
    simp only [KR] at hK
    rw [Option.bind_eq_some_iff] at h
    obtain ⟨l, h1, h⟩ := h
    rw [Option.bind_eq_some_iff] at h
    obtain ⟨hh', h2, h⟩ := h
    split at h
    · rename_i hc
      cases h
      simp only [Bool.and_eq_true, decide_eq_true_eq] at hc
      obtain ⟨⟨hc1, hc2⟩, hc3⟩ := hc
      cases mx with
      | some _ => simp at hc1
      | none =>
      cases mx' with
      | some _ => exact hm.elim
      | none =>
      obtain ⟨b, rfl, rfl⟩ := hx.str_inv
      have hb := bounds_run (P := P) (w := w) (isS := false) (cap := b.size) hl hh h1 h2 hc2 (by simpa using hc3)
      refine ⟨.string (b.extract l hh'), ?_, .str _ _ ?_⟩
      · rw [hs, run_sliceAt_str hK]
        have hb' : (Instr.sliceBounds false b.size b.size lo' hi' none).run P w = .ok (l, hh', b.size) w := by simpa using hb
        simp [Instr.slice, run_under hK, hb']
      · rw [ByteArray.data_extract]
        simp
    · cases h
  · -- nil
    rename_i hk
    have hK := KR.of hT hk
    simp only [KR] at hK
    rw [Option.bind_eq_some_iff] at h
    obtain ⟨l, h1, h⟩ := h
    rw [Option.bind_eq_some_iff] at h
    obtain ⟨hh', h2, h⟩ := h
    rw [Option.bind_eq_some_iff] at h
    obtain ⟨sz, h3, h⟩ := h
    split at h
    · rename_i hc
      cases h
      simp only [Bool.and_eq_true, decide_eq_true_eq] at hc
      obtain ⟨⟨hc1, rfl⟩, rfl⟩ := hc
      cases mx with
      | some _ => simp at hc1
      | none =>
      cases mx' with
      | some _ => exact hm.elim
      | none =>
      cases hx
      have hb := bounds_run (P := P) (w := w) (isS := true) (len := 0) (cap := 0) hl hh h1 h2 (Nat.le_refl _) (Nat.le_refl _)
      exact ⟨.slice none 0 0, by rw [hs, run_sliceAt hK]; simp [Instr.slice, run_under hK, hb, sizeT_run hC h3], .nils⟩
    · cases h
  · -- a list
    rename_i xs tok hk
    have hK := KR.of hT hk
    simp only [KR] at hK
    rw [Option.bind_eq_some_iff] at h
    obtain ⟨l, h1, h⟩ := h
    rw [Option.bind_eq_some_iff] at h
    obtain ⟨hh', h2, h⟩ := h
    rw [Option.bind_eq_some_iff] at h
    obtain ⟨sz, h3, h⟩ := h
    split at h
    · rename_i hc
      simp only [Bool.and_eq_true, decide_eq_true_eq] at hc
      obtain ⟨⟨hc1, hc2⟩, hc3⟩ := hc
      obtain ⟨B, base, cap, rfl, hcap⟩ : ∃ B base cap, v = .slice (some ⟨B, base, none⟩) xs.length cap ∧ xs.length ≤ cap := by
        cases hx with
        | vs c a1 a2 a3 a4 a5 a6 => exact ⟨_, _, _, rfl, a5⟩
      have hadd : (if cap = l then some (⟨B, base, none⟩ : Addr) else some ((⟨B, base, none⟩ : Addr).add (l * sz))) = some ⟨B, if cap = l then base else base + l * sz, none⟩ := by
        split <;> simp [add_at]
      cases mx with
      | none =>
        cases mx' with
        | some _ => exact hm.elim
        | none =>
        cases h
        have hb := bounds_run (P := P) (w := w) (isS := true) (len := xs.length) (cap := cap) hl hh h1 h2 hc1 (by omega)
        by_cases h0 : l = 0 ∧ hh' = xs.length
        · obtain ⟨rfl, rfl⟩ := h0
          refine ⟨_, ?_, by simpa using hx⟩
          rw [hs, run_sliceAt hK]
          simp [Instr.slice, run_under hK, hb, sizeT_run hC h3, Addr.add]
        · have e : (if (decide (l = 0) && decide (hh' = xs.length)) = true then AV.vs xs tok else .vs ((xs.drop l).take (hh' - l)) none) = .vs ((xs.drop l).take (hh' - l)) none := by
            rw [if_neg]; simpa using h0
          refine ⟨.slice (some ⟨B, if cap = l then base else base + l * sz, none⟩) (hh' - l) (cap - l), ?_, ?_⟩
          · rw [hs, run_sliceAt hK]
            simp [Instr.slice, run_under hK, hb, sizeT_run hC h3, add_at]
            split <;> simp
          · rw [e]
            by_cases hcl : cap = l
            · have : hh' - l = 0 := by omega
              rw [if_pos hcl, this, List.take_zero]
              exact vs_empty
            · rw [if_neg hcl]
              exact vs_part hx hc3 hc1 hc2 (.inr (by omega)) (by omega) (fun t ht => by cases ht)
      | some m =>
        rw [Option.bind_eq_some_iff] at h
        obtain ⟨m', hm', h⟩ := h
        cases mx' with
        | none => exact hm.elim
        | some vm =>
        cases hi with
        | none => simp at h
        | some a =>
        cases hi' with
        | none => exact hh.elim
        | some va =>
        simp only [boundOf] at h2
        split at h
        · rename_i hq
          cases h
          simp only [Bool.and_eq_true, decide_eq_true_eq] at hq
          obtain ⟨⟨_, rfl⟩, hlt⟩ := hq
          have hb := fun w => bounds3_run (P := P) (w := w) (len := xs.length) (cap := cap) hl hh hm h1 h2 hm' hc1 (Nat.le_refl _) (by omega)
          intro K b hKH hbn hbl hbk
          have key := hKH.at_free (B := B) (base := base + l * sz) (len := m' - l) (sz := sz) hbn hbl hbk
          refine ⟨.slice (some ⟨B, base + l * sz, none⟩) (m' - l) (m' - l), w, _, ?_, key.1, key.2, ?_, fun j hj => by simp [Gh.at, hj]⟩
          · rw [hs, run_sliceAt hK]
            have : ¬ m' = l := by omega
            simp [Instr.slice, run_under hK, hb, sizeT_run hC h3, add_at, this]
          · exact vs_part (hx.mono key.2.le) hc3 hc1 hc2 (.inl hlt) (Nat.le_refl _) (fun t ht => by cases ht; simp [Gh.at])
        · rename_i hq'
          split at h
          · rename_i hq
            cases h
            simp only [Bool.and_eq_true, decide_eq_true_eq] at hq
            obtain ⟨_, rfl⟩ := hq
            have hb := bounds3_run (P := P) (w := w) (len := xs.length) (cap := cap) hl hh hm h1 h2 hm' hc1 (Nat.le_refl _) (by omega)
            have hle : m' ≤ l := by
              rcases Nat.lt_or_ge l m' with h' | h'
              · exact absurd (by simp [h'] : ((some a).isSome && decide (m' = m') && decide (l < m')) = true) hq'
              · exact h'
            have e : m' = l := by omega
            subst e
            refine ⟨.slice (some ⟨B, base, none⟩) 0 0, ?_, vs_empty⟩
            rw [hs, run_sliceAt hK]
            simp [Instr.slice, run_under hK, hb, sizeT_run hC h3]
          · cases h
    · cases h
  · -- an owned row
    rename_i b o len e' hk
    have hK := KR.of hT hk
    simp only [KR] at hK
    rw [Option.bind_eq_some_iff] at h
    obtain ⟨l, h1, h⟩ := h
    rw [Option.bind_eq_some_iff] at h
    obtain ⟨hh', h2, h⟩ := h
    rw [Option.bind_eq_some_iff] at h
    obtain ⟨sz, h3, h⟩ := h
    split at h
    · rename_i hc
      cases h
      simp only [Bool.and_eq_true, decide_eq_true_eq] at hc
      obtain ⟨⟨⟨hc1, hc2⟩, hc3⟩, rfl⟩ := hc
      cases mx with
      | some _ => simp at hc1
      | none =>
      cases mx' with
      | some _ => exact hm.elim
      | none =>
      cases hx with
      | @rs _ B base ext cap _ _ _ hr hcap hext =>
      have hb := bounds_run (P := P) (w := w) (isS := true) (len := len) (cap := cap) hl hh h1 h2 hc2 (by omega)
      have hesz : γ.esz e' = sz := by
        obtain ⟨j, hj, rfl⟩ := Option.map_eq_some_iff.1 h3
        exact hg.esz _ _ hj
      by_cases hl0 : l = 0
      · subst hl0
        rw [if_pos rfl]
        refine ⟨_, ?_, .rs o hh' e' hr (by omega) hext⟩
        rw [hs, run_sliceAt hK]
        simp [Instr.slice, run_under hK, hb, sizeT_run hC h3, Addr.add]
      · rw [if_neg hl0]
        by_cases hlh : l = hh'
        · subst hlh
          rw [if_pos rfl]
          refine ⟨.slice (some ⟨B, if cap = l then base + o else base + o + l * sz, none⟩) 0 (cap - l), ?_, vs_empty⟩
          rw [hs, run_sliceAt hK]
          simp [Instr.slice, run_under hK, hb, sizeT_run hC h3, add_at]
          split <;> simp
        · rw [if_neg hlh]
          have hcl : ¬ cap = l := by omega
          refine ⟨.slice (some ⟨B, base + (o + l * sz), none⟩) (hh' - l) (cap - l), ?_, .rs _ _ _ hr (by omega) ?_⟩
          · rw [hs, run_sliceAt hK]
            simp [Instr.slice, run_under hK, hb, sizeT_run hC h3, add_at, hcl, Nat.add_assoc]
          · rw [hesz] at hext ⊢
            have : l * sz + (cap - l) * sz = cap * sz := by rw [← Nat.add_mul]; congr 1; omega
            omega
    · cases h
  · -- an array
    rename_i n e b o hk
    have hK := KR.of hT hk
    simp only [KR] at hK
    rw [Option.bind_eq_some_iff] at h
    obtain ⟨l, h1, h⟩ := h
    rw [Option.bind_eq_some_iff] at h
    obtain ⟨hh', h2, h⟩ := h
    rw [Option.bind_eq_some_iff] at h
    obtain ⟨sz, h3, h⟩ := h
    rw [Option.bind_eq_some_iff] at h
    obtain ⟨cs, h4, h⟩ := h
    split at h
    · rename_i hc
      cases h
      simp only [Bool.and_eq_true, decide_eq_true_eq] at hc
      obtain ⟨⟨⟨hc1, hc2⟩, hc3⟩, hc4⟩ := hc
      cases mx with
      | some _ => simp at hc1
      | none =>
      cases mx' with
      | some _ => exact hm.elim
      | none =>
      have hb := bounds_run (P := P) (w := w) (isS := false) (len := n) (cap := n) hl hh h1 h2 (by omega) hc3
      have hesz : γ.esz e = sz := by
        obtain ⟨j, hj, rfl⟩ := Option.map_eq_some_iff.1 h3
        exact hg.esz _ _ hj
      obtain ⟨B, base, ext, rfl, hr, _⟩ := ptr_row hH hx rfl (cells?_some h4)
      have hext := (hH.cells b B base ext cs hr (cells?_some h4)).1
      have hcl : ¬ n = l := by omega
      refine ⟨.slice (some ⟨B, base + (o + l * sz), none⟩) (hh' - l) (n - l), ?_, .rs _ _ _ hr (by omega) ?_⟩
      · rw [hs]
        simp [Instr.sliceAt, run_under hK, hb, sizeT_run hC h3, add_at, hcl, Nat.add_assoc, Instr.sureAddr]
      · rw [hesz]
        have : l * sz + (n - l) * sz = n * sz := by rw [← Nat.add_mul]; congr 1; omega
        omega
    · cases h
  · cases h

end
end Go.AM

/-
  THE ABSTRACT MACHINE, eighth text: the operations without an effect are sound, fourth part: what is made: structs, rows, slices, boxes.
-/
namespace Go.AM
section
variable {C : Ctx} {P : Program} {γ : Gh} {H : Heap} {w : World}

theorem mapM_some {α β : Type} (g : α → Option β) (h : α → β) : ∀ (l : List α), (∀ a, a ∈ l → g a = some (h a)) → l.mapM g = some (l.map h)
  | [], _ => rfl
  | a :: l, k => by simp [List.mapM_cons, k a (List.mem_cons_self), mapM_some g h l (fun b hb => k b (List.mem_cons_of_mem _ hb))]

theorem setAll (off : Nat) : ∀ (l : List Value) (k : Nat) (cells : Array Value), off + k + l.length ≤ cells.size →
    ((l.zipIdx k).foldl (fun (cs : Array Value) (p : Value × Nat) => cs.setIfInBounds (off + p.2) p.1) cells).toList = cells.toList.take (off + k) ++ l ++ cells.toList.drop (off + k + l.length)
  | [], k, cells, _ => by simp
  | v :: l, k, cells, h => by
    simp only [List.zipIdx_cons, List.foldl_cons]
    have hk : off + k < cells.size := by simp at h; omega
    rw [setAll off l (k + 1) (cells.setIfInBounds (off + k) v) (by simp at h ⊢; omega)]
    simp only [Array.toList_setIfInBounds]
    have hl : off + k < cells.toList.length := by simpa using hk
    rw [show off + (k + 1) = off + k + 1 from by omega, List.take_set, List.drop_set_of_lt (by omega)]
    rw [List.take_succ_eq_append_getElem hl, List.set_append_right _ _ (by simp; omega)]
    simp only [List.length_take, Nat.min_eq_left (Nat.le_of_lt hl), Nat.sub_self, List.set_cons_zero, List.length_cons]
    simp [Nat.add_assoc, Nat.add_comm 1]

theorem fill_cells (off : Nat) (v : Value) (cells : Array Value) (h : off + v.cells.size ≤ cells.size) :
    (v.cells.zipIdx.foldl (fun (cs : Array Value) (p : Value × Nat) => cs.setIfInBounds (off + p.2) p.1) cells).toList = cells.toList.take off ++ v.cells.toList ++ cells.toList.drop (off + v.cells.size) := by
  have := setAll off v.cells.toList 0 cells (by simpa using h)
  simp only [Nat.add_zero, Array.length_toList] at this
  rw [← this, ← Array.foldl_toList]
  congr 2
  rw [Array.toList_zipIdx]

theorem splice_sound {cs cs' xs : List AV} {vs us : List Value} {o : Nat} (hc : VRs γ cs vs) (hx : VRs γ xs us) (h : splice cs o xs = some cs') : o + us.length ≤ vs.length ∧ VRs γ cs' (vs.take o ++ us ++ vs.drop (o + us.length)) := by
  unfold splice at h
  split at h <;> cases h
  rename_i hle
  have e : xs.length = us.length := hx.1
  refine ⟨by rw [← hc.1, ← e]; exact hle, ?_⟩
  rw [e]
  exact (((hc.take o).append hx).append (hc.drop _))

theorem splice_one {cs cs' xs : List AV} {o : Nat} (hc : ∀ x, x ∈ cs → one x = true) (hx : ∀ x, x ∈ xs → one x = true) (h : splice cs o xs = some cs') : ∀ x, x ∈ cs' → one x = true := by
  unfold splice at h
  split at h <;> cases h
  intro x hm
  simp only [List.mem_append] at hm
  rcases hm with (hm | hm) | hm
  · exact hc x (List.mem_of_mem_take hm)
  · exact hx x hm
  · exact hc x (List.mem_of_mem_drop hm)

theorem splice_length {cs cs' xs : List AV} {o : Nat} (h : splice cs o xs = some cs') : cs'.length = cs.length := by
  unfold splice at h
  split at h <;> cases h
  simp; omega

theorem fillA_sound {place place' : Nat → Option (Nat × Nat)} (hp : ∀ i p, place i = some p → place' i = some p) : ∀ (ps : List (Nat × AV)) (us : List (Nat × Value)) (cs cs' : List AV) (vs : Array Value),
    ps.length = us.length → (∀ (i : Nat) (p : Nat × AV) (u : Nat × Value), ps[i]? = some p → us[i]? = some u → p.1 = u.1 ∧ VR γ p.2 u.2) → VRs γ cs vs.toList → (∀ x, x ∈ cs → one x = true) → fillA place cs ps = some cs' →
    ∃ vs', Instr.fill place' vs us = some vs' ∧ VRs γ cs' vs'.toList ∧ ∀ x, x ∈ cs' → one x = true
  | [], [], cs, cs', vs, _, _, hc, h1, h => by cases h; exact ⟨vs, rfl, hc, h1⟩
  | [], _ :: _, _, _, _, hl, _, _, _, _ => by simp at hl
  | _ :: _, [], _, _, _, hl, _, _, _, _ => by simp at hl
  | (i, x) :: ps, (j, u) :: us, cs, cs', vs, hl, hv, hc, h1, h => by
    obtain ⟨rfl, hx⟩ := hv 0 (i, x) (j, u) rfl rfl
    rw [fillA, Option.bind_eq_some_iff] at h
    obtain ⟨q, hq, h⟩ := h
    split at h
    · rename_i hs
      simp only [Bool.and_eq_true, decide_eq_true_eq] at hs
      rw [Option.bind_eq_some_iff] at h
      obtain ⟨cs1, h2, h⟩ := h
      obtain ⟨hxc, hx1⟩ := VR.cells hx hs.1
      obtain ⟨hle, hc2⟩ := splice_sound hc hxc h2
      have hsz : u.cells.size = q.2 := by have := hxc.1; simp at this; omega
      have hle' : q.1 + u.cells.size ≤ vs.size := by simpa using hle
      have hf := fill_cells q.1 u vs hle'
      obtain ⟨vs', h3, h4, h5⟩ := fillA_sound hp ps us cs1 cs' (u.cells.zipIdx.foldl (fun (cs : Array Value) (p : Value × Nat) => cs.setIfInBounds (q.1 + p.2) p.1) vs) (by simpa using hl)
        (fun k p u' hp' hu' => hv (k + 1) p u' (by simpa using hp') (by simpa using hu')) (by rw [hf]; simpa using hc2) (splice_one h1 hx1 h2) h
      refine ⟨vs', ?_, h4, h5⟩
      rw [Instr.fill, hp i q hq]
      simp only [hsz, ne_eq, not_true, Bool.or_eq_true, decide_eq_true_eq, false_or]
      rw [hsz] at hle'
      rw [if_neg (by omega)]
      exact h3
    · cases h

theorem parts_rel {ρ : Operand → AV} {σ : Operand → Value} (hρ : ∀ x, VR γ (ρ x) (σ x)) (ps : Array (Nat × Operand)) :
    (ps.toList.map fun p => (p.1, ρ p.2)).length = (ps.map fun (i, x) => (i, σ x)).toList.length ∧
    ∀ (i : Nat) (p : Nat × AV) (u : Nat × Value), (ps.toList.map fun p => (p.1, ρ p.2))[i]? = some p → (ps.map fun (i, x) => (i, σ x)).toList[i]? = some u → p.1 = u.1 ∧ VR γ p.2 u.2 := by
  refine ⟨by simp, fun i p u hp hu => ?_⟩
  simp only [List.getElem?_map, Array.toList_map, Option.map_eq_some_iff] at hp hu
  obtain ⟨a, ha, rfl⟩ := hp
  obtain ⟨b, hb, rfl⟩ := hu
  rw [ha] at hb; cases hb
  exact ⟨rfl, hρ _⟩

theorem buildA_sound (hC : CtxR C P) {ρ : Operand → AV} {σ : Operand → Value} (hρ : ∀ x, VR γ (ρ x) (σ x)) {t : Nat} {ps : Array (Nat × Operand)} {a : AV} (h : buildA C t (ps.toList.map fun p => (p.1, ρ p.2)) = some a) :
    ∃ u, (Instr.build t (ps.map fun (i, x) => (i, σ x))).run P w = .ok u w ∧ VR γ a u := by
  obtain ⟨hl, hv⟩ := parts_rel hρ ps
  rw [buildA, Option.bind_eq_some_iff] at h
  obtain ⟨i, hi, h⟩ := h
  have hT := hC.ti t i hi
  obtain ⟨inf, hinf, _, _, z, hz, hzv⟩ := hT.info
  split at h
  · rename_i fs zc hk hzc
    obtain ⟨cs, hcs, rfl⟩ := Option.map_eq_some_iff.1 h
    obtain ⟨fl, hu, hfl⟩ := KR.of hT hk
    have hzr := hzv γ
    rw [hzc] at hzr
    obtain ⟨zs, rfl, hzs, hz1⟩ := hzr.agg_inv
    have hpl : fl.toList.mapM (fun f => (P.info? f.type).map fun i => (f.offset, i.size)) = some (fl.toList.map fun f => (f.offset, ((P.info? f.type).map (·.size)).getD 0)) := by
      refine mapM_some _ _ _ fun f hf => ?_
      obtain ⟨j, hj⟩ := hC.flds t i fs hi hk (f.offset, f.type) (by rw [← hfl]; exact List.mem_map.2 ⟨f, hf, rfl⟩)
      obtain ⟨inf', h1, _⟩ := (hC.ti _ j hj).info
      simp [h1]
    obtain ⟨vs', h3, h4, h5⟩ := fillA_sound (γ := γ) (place := placeS C fs) (place' := ((fl.toList.map fun f => (f.offset, ((P.info? f.type).map (·.size)).getD 0)).toArray[·]?)) (fun k q hq => by
      rw [placeS, Option.bind_eq_some_iff] at hq
      obtain ⟨q', hq', hq⟩ := hq
      obtain ⟨s, hs, rfl⟩ := Option.map_eq_some_iff.1 hq
      obtain ⟨x, hx, hxo, hxt⟩ := field_of hfl hq'
      obtain ⟨j, hj, rfl⟩ := Option.map_eq_some_iff.1 hs
      obtain ⟨inf', h1, h2, _⟩ := (hC.ti _ j hj).info
      simp [hx, hxo, hxt, h1, h2]) _ _ _ _ _ hl hv hzs hz1 hcs
    refine ⟨.agg vs', run_build w t _ vs' ?_, VRs.agg h4 h5⟩
    simp only [Program.built, hinf, hu, hz, hpl]
    exact h3
  · rename_i n e zc hk hzc
    rw [Option.bind_eq_some_iff] at h
    obtain ⟨s, hs, h⟩ := h
    obtain ⟨cs, hcs, rfl⟩ := Option.map_eq_some_iff.1 h
    have hu := KR.of hT hk
    simp only [KR] at hu
    have hzr := hzv γ
    rw [hzc] at hzr
    obtain ⟨zs, rfl, hzs, hz1⟩ := hzr.agg_inv
    obtain ⟨j, hj, rfl⟩ := Option.map_eq_some_iff.1 hs
    obtain ⟨inf', h1, h2, _⟩ := (hC.ti _ j hj).info
    obtain ⟨vs', h3, h4, h5⟩ := fillA_sound (γ := γ) (place := fun i => some (i * j.size, j.size)) (place' := fun i => some (i * inf'.size, inf'.size)) (fun k q hq => by cases hq; rw [h2]) _ _ _ _ _ hl hv hzs hz1 hcs
    refine ⟨.agg vs', run_build w t _ vs' ?_, VRs.agg h4 h5⟩
    simp only [Program.built, hinf, hu, hz, h1]
    exact h3
  · cases h

/-! ### Blocks -/
theorem sound_inv {i : TI} (h : sound i = true) : stor i.zero = true ∧ (cellsOf i.zero).length = i.size ∧ 0 < i.size := by
  simpa [sound, and_assoc] using h

theorem alloc_sound (hC : CtxR C P) {t : Nat} {i : TI} (hi : C.ti t = some i) (hs : sound i = true) {s : Sem Next} (he : ∀ w, s.run P w = ((Instr.alloc t true (.tuple #[])).run P w).andThen fun u w => .ok (.value u) w) :
    NSound P γ w (.new (fun b => .ptr b 0) (.cells (cellsOf i.zero))) s := by
  intro K b hK hb hlt hk
  obtain ⟨z, hz, hzv⟩ := run_zero (hC.ti t i hi)
  obtain ⟨hst, hlen, _⟩ := sound_inv hs
  obtain ⟨hc, h1⟩ := VR.cells (hzv γ) hst
  have key := hK.alloc_cells hb hlt hk hc h1 t
  refine ⟨.pointer (some ⟨w.heap.size, 0, none⟩), _, _, ?_, key.1, key.2, ?_, fun j hj => by simp [Gh.at, hj]⟩
  · rw [he]
    simp [Instr.alloc, hz, newVar, newRow]
  · exact VR.ptr (base := 0) 0 (by simp [Gh.at]; rfl)

theorem box_sound {t : Nat} {x : AV} {v : Value} (hx : VR γ x v) (hs : stor x = true) {s : Sem Next} (he : ∀ w, s.run P w = ((Instr.box t v).run P w).andThen fun u w => .ok (.value u) w) :
    NSound P γ w (.new (fun b => .ptr b 0) (.cells (cellsOf x))) s := by
  intro K b hK hb hlt hk
  obtain ⟨hc, h1⟩ := VR.cells hx hs
  have key := hK.alloc_cells hb hlt hk hc h1 t
  refine ⟨.pointer (some ⟨w.heap.size, 0, none⟩), _, _, ?_, key.1, key.2, ?_, fun j hj => by simp [Gh.at, hj]⟩
  · rw [he]
    simp [Instr.box, newVar, newRow]
  · exact VR.ptr (base := 0) 0 (by simp [Gh.at]; rfl)

theorem flatA_cons (x : AV) (xs : List AV) : flatA (x :: xs) = cellsOf x ++ flatA xs := by simp [flatA]
theorem flatA_append (xs ys : List AV) : flatA (xs ++ ys) = flatA xs ++ flatA ys := by simp [flatA]
theorem flatA_length {sz : Nat} : ∀ (xs : List AV), (∀ x, x ∈ xs → (cellsOf x).length = sz) → (flatA xs).length = xs.length * sz
  | [], _ => by simp [flatA]
  | x :: xs, h => by
    rw [flatA_cons, List.length_append, h x (List.mem_cons_self), flatA_length xs (fun y hy => h y (List.mem_cons_of_mem _ hy)), List.length_cons, Nat.add_mul]
    omega
theorem flatA_get {sz : Nat} : ∀ (xs : List AV), (∀ x, x ∈ xs → (cellsOf x).length = sz) → ∀ (i : Nat) (x : AV) (j : Nat) (y : AV), xs[i]? = some x → (cellsOf x)[j]? = some y → (flatA xs)[i * sz + j]? = some y
  | [], _, i, x, j, y, hx, _ => by simp at hx
  | a :: xs, h, i, x, j, y, hx, hy => by
    have ha := h a (List.mem_cons_self)
    rw [flatA_cons]
    cases i with
    | zero =>
      simp at hx; subst hx
      rw [Nat.zero_mul, Nat.zero_add, List.getElem?_append_left (by exact (List.getElem?_eq_some_iff.1 hy).1)]
      exact hy
    | succ i =>
      simp at hx
      rw [List.getElem?_append_right (by rw [ha, Nat.add_mul]; omega), ha, show (i + 1) * sz + j - sz = i * sz + j from by rw [Nat.add_mul]; omega]
      exact flatA_get xs (fun z hz => h z (List.mem_cons_of_mem _ hz)) i x j y hx hy

/-- A new row that is a list's. -/
theorem newList {K : Heap} (hK : HR γ K w) {b : Nat} (hb : γ.rho b = none) (hlt : b < K.next) {sz : Nat} (hk : K.blk b = .tok sz) {xs : List AV} {vs : Array Value} {cap : Nat} (hsz : ∀ x, x ∈ xs → (cellsOf x).length = sz)
    (h1 : ∀ x, x ∈ flatA xs → one x = true) (hv : VRs γ (flatA xs) (vs.toList.take (xs.length * sz))) (hcap : xs.length ≤ cap) (hvs : vs.size = cap * sz) (t : TypeId) :
    ∃ γ', HR γ' K (w.alloc (.cells vs t)) ∧ Ext γ (K.cut b) w γ' K (w.alloc (.cells vs t)) ∧ VR γ' (.vs xs (some b)) (.slice (some ⟨w.heap.size, 0, none⟩) xs.length cap) ∧ ∀ j, j ≠ b → γ'.rho j = γ.rho j := by
  refine hK.alloc_tok hb hlt hk (fun x hx y hy => h1 y (List.mem_flatMap.2 ⟨x, hx, hy⟩)) (fun i x hx => hsz x (List.mem_of_getElem? hx)) (fun i x j y hx hy => ?_) hcap hvs t
  have hf := flatA_get xs hsz i x j y hx hy
  obtain ⟨v, h2, h3⟩ := hv.get hf
  refine ⟨v, ?_, h3⟩
  rw [List.getElem?_take] at h2
  split at h2
  · simpa using h2
  · cases h2

/-- A new row that is owned. -/
theorem newRows (hg : GR C γ) {K : Heap} (hK : HR γ K w) {b : Nat} (hb : γ.rho b = none) (hlt : b < K.next) {cs : List AV} (hk : K.blk b = .cells cs) {vs : Array Value} (hv : VRs γ cs vs.toList) (h1 : ∀ x, x ∈ cs → one x = true)
    {e len cap : Nat} {i : TI} (hi : C.ti e = some i) (hcap : len ≤ cap) (hcs : cs.length = cap * i.size) (t : TypeId) :
    ∃ γ', HR γ' K (w.alloc (.cells vs t)) ∧ Ext γ (K.cut b) w γ' K (w.alloc (.cells vs t)) ∧ VR γ' (.rs b 0 len e) (.slice (some ⟨w.heap.size, 0, none⟩) len cap) ∧ ∀ j, j ≠ b → γ'.rho j = γ.rho j := by
  have key := hK.alloc_cells hb hlt hk hv h1 t
  refine ⟨_, key.1, key.2, ?_, fun j hj => by simp [Gh.at, hj]⟩
  exact VR.rs (B := w.heap.size) (base := 0) (ext := cs.length) 0 len e (by simp [Gh.at]) hcap (by rw [show (γ.at b (.cells w.heap.size 0 cs.length) w.heap.size fun _ => none).esz = γ.esz from rfl, hg.esz e i hi, hcs]; omega)

end
end Go.AM

/-
  THE ABSTRACT MACHINE, ninth text: the operations without an effect are sound, fifth part: slices that are made, conversions, lengths, maps, assertions.
-/
namespace Go.AM
section
variable {C : Ctx} {P : Program} {γ : Gh} {H : Heap} {w : World}

theorem made_flat (zc : Array Value) (hs : 0 < zc.size) : ∀ n, (madeCells zc (n * zc.size)).toList = (List.replicate n zc.toList).flatten
  | 0 => by simp [madeCells]
  | n + 1 => by
    have ih := made_flat zc hs n
    simp only [madeCells, Array.toList_map, Array.toList_range] at ih ⊢
    rw [Nat.add_mul, Nat.one_mul, Nat.add_comm, List.range_add, List.map_append, List.map_map, List.replicate_succ, List.flatten_cons]
    congr 1
    · apply List.ext_getElem
      · simp
      · intro i h1 h2
        have : i < zc.size := by simpa using h1
        simp [Nat.mod_eq_of_lt this, this]
    · rw [← ih]
      apply List.map_congr_left
      intro i _
      simp

theorem VRs.reps {a : List AV} {c : List Value} (h : VRs γ a c) : ∀ n, VRs γ (List.replicate n a).flatten (List.replicate n c).flatten
  | 0 => VRs.nil
  | n + 1 => by simp only [List.replicate_succ, List.flatten_cons]; exact h.append (VRs.reps h n)

theorem flatA_rep (x : AV) (n : Nat) : flatA (List.replicate n x) = (List.replicate n (cellsOf x)).flatten := by simp [flatA, List.flatMap]

theorem zeros_rel {x : AV} {z : Value} (hz : VR γ x z) (hs : stor x = true) {sz : Nat} (hl : (cellsOf x).length = sz) (h0 : 0 < sz) (n : Nat) : VRs γ (flatA (List.replicate n x)) (madeCells z.cells (n * sz)).toList := by
  obtain ⟨hc, _⟩ := VR.cells hz hs
  have e : z.cells.size = sz := by have := hc.1; simp at this; omega
  rw [← e, made_flat z.cells (by omega), flatA_rep]
  exact hc.reps n

theorem flatA_one {xs : List AV} (h : ∀ x, x ∈ xs → ∀ y, y ∈ cellsOf x → one y = true) : ∀ y, y ∈ flatA xs → one y = true := fun y hy => by
  obtain ⟨x, hx, hy⟩ := List.mem_flatMap.1 hy
  exact h x hx y hy

theorem flatA_take {sz : Nat} (xs : List AV) (h : ∀ x, x ∈ xs → (cellsOf x).length = sz) (n : Nat) (hn : n ≤ xs.length) : flatA (xs.take n) = (flatA xs).take (n * sz) ∧ flatA (xs.drop n) = (flatA xs).drop (n * sz) := by
  have e : flatA xs = flatA (xs.take n) ++ flatA (xs.drop n) := by rw [← flatA_append, List.take_append_drop]
  have l : (flatA (xs.take n)).length = n * sz := by rw [flatA_length _ (fun x hx => h x (List.mem_of_mem_take hx))]; simp [Nat.min_eq_left hn]
  rw [e]
  exact ⟨by rw [← l, List.take_left], by rw [← l, List.drop_left]⟩

theorem fillE_flat {sz : Nat} : ∀ (ps : List (Nat × AV)) (xs xs' : List AV), (∀ x, x ∈ xs → (cellsOf x).length = sz) → fillE sz xs ps = some xs' →
    fillA (fun i => some (i * sz, sz)) (flatA xs) ps = some (flatA xs') ∧ (∀ x, x ∈ xs' → (cellsOf x).length = sz) ∧ xs'.length = xs.length
  | [], xs, xs', hs, h => by cases h; exact ⟨rfl, hs, rfl⟩
  | (i, v) :: ps, xs, xs', hs, h => by
    rw [fillE] at h
    split at h
    · rename_i hv
      rw [Option.bind_eq_some_iff] at h
      obtain ⟨x1, h1, h⟩ := h
      have hv2 := hv
      simp only [Bool.and_eq_true, decide_eq_true_eq] at hv2
      have hlen1 := splice_length h1
      unfold splice at h1
      split at h1 <;> cases h1
      rename_i hle
      have hle' : i + 1 ≤ xs.length := by simpa using hle
      have hs1 : ∀ x, x ∈ xs.take i ++ [v] ++ xs.drop (i + [v].length) → (cellsOf x).length = sz := fun x hx => by
        simp only [List.mem_append, List.mem_singleton] at hx
        rcases hx with (hx | hx) | hx
        · exact hs x (List.mem_of_mem_take hx)
        · rw [hx]; exact hv2.2
        · exact hs x (List.mem_of_mem_drop hx)
      obtain ⟨h2, h3, h4⟩ := fillE_flat ps _ xs' hs1 h
      refine ⟨?_, h3, h4.trans hlen1⟩
      rw [fillA]
      simp only [Option.bind_some]
      rw [if_pos hv]
      have hfl := flatA_length xs hs
      have hin : i * sz + sz ≤ xs.length * sz := by rw [← Nat.succ_mul]; exact Nat.mul_le_mul_right _ hle'
      have e : splice (flatA xs) (i * sz) (cellsOf v) = some (flatA (xs.take i ++ [v] ++ xs.drop (i + [v].length))) := by
        unfold splice
        rw [show i + [v].length = i + 1 from rfl, if_pos (by rw [hfl, hv2.2]; exact hin), flatA_append, flatA_append, (flatA_take xs hs i (by omega)).1, (flatA_take xs hs (i + 1) hle').2]
        simp [flatA, hv2.2, Nat.add_mul]
      rw [e]
      exact h2
    · cases h

theorem fillE_one {sz : Nat} : ∀ (ps : List (Nat × AV)) (xs xs' : List AV), fillE sz xs ps = some xs' → (∀ x, x ∈ xs' → x ∈ xs ∨ ∃ i, (i, x) ∈ ps)
  | [], xs, xs', h => by cases h; exact fun x hx => .inl hx
  | (i, v) :: ps, xs, xs', h => by
    rw [fillE] at h
    split at h
    · rw [Option.bind_eq_some_iff] at h
      obtain ⟨x1, h1, h⟩ := h
      unfold splice at h1
      split at h1 <;> cases h1
      intro x hx
      rcases fillE_one ps _ xs' h x hx with hx | ⟨j, hj⟩
      · simp only [List.mem_append, List.mem_singleton] at hx
        rcases hx with (hx | hx) | hx
        · exact .inl (List.mem_of_mem_take hx)
        · exact .inr ⟨i, by rw [hx]; exact List.mem_cons_self⟩
        · exact .inl (List.mem_of_mem_drop hx)
      · exact .inr ⟨j, List.mem_cons_of_mem _ hj⟩
    · cases h

theorem buildSliceA_sound (hC : CtxR C P) (hg : GR C γ) {ρ : Operand → AV} {σ : Operand → Value} (hρ : ∀ x, VR γ (ρ x) (σ x)) {mu : Bool} {t len : Nat} {ps : Array (Nat × Operand)} {r : NR}
    (h : buildSliceA C mu t len (ps.toList.map fun p => (p.1, ρ p.2)) = some r) {s : Sem Next} (he : ∀ w, s.run P w = ((Instr.buildSlice t len (ps.map fun (i, x) => (i, σ x))).run P w).andThen fun u w => .ok (.value u) w) : NSound P γ w r s := by
  rw [buildSliceA, Option.bind_eq_some_iff] at h
  obtain ⟨i, hi, h⟩ := h
  rw [Option.bind_eq_some_iff] at h
  obtain ⟨e, hs, h⟩ := h
  rw [Option.bind_eq_some_iff] at h
  obtain ⟨j, hj, h⟩ := h
  split at h
  · rename_i hc
    simp only [Bool.and_eq_true, decide_eq_true_eq] at hc
    obtain ⟨hsn, hlim⟩ := hc
    obtain ⟨hst, hlen, hpos⟩ := sound_inv hsn
    obtain ⟨xs, hxs, rfl⟩ := Option.map_eq_some_iff.1 h
    have hu := KR.of (hC.ti t i hi) (slice?_some hs)
    simp only [KR] at hu
    have hJ := hC.ti e j hj
    obtain ⟨z, hz, hzv⟩ := run_zero hJ
    have hrep : ∀ x, x ∈ List.replicate len j.zero → (cellsOf x).length = j.size := fun x hx => by rw [(List.mem_replicate.1 hx).2]; exact hlen
    obtain ⟨hf1, hf2, hf3⟩ := fillE_flat _ _ _ hrep hxs
    have hxl : xs.length = len := by simpa using hf3
    -- the cells, in any world of the same values
    have hrun : ∀ γ', (∀ x, VR γ' (ρ x) (σ x)) → ∃ vs : Array Value, (∀ w, (Instr.buildSlice t len (ps.map fun (i, x) => (i, σ x))).run P w = .ok (.slice (some ⟨w.heap.size, 0, none⟩) len len) (w.alloc (.cells vs e))) ∧ VRs γ' (flatA xs) vs.toList ∧ ∀ x, x ∈ flatA xs → one x = true := fun γ' hρ' => by
      obtain ⟨hl, hv⟩ := parts_rel hρ' ps
      have hz1 : ∀ x, x ∈ flatA (List.replicate len j.zero) → one x = true := flatA_one fun x hx y hy => by rw [(List.mem_replicate.1 hx).2] at hy; exact (VR.cells (hzv γ') hst).2 y hy
      obtain ⟨vs, h3, h4, h5⟩ := fillA_sound (γ := γ') (place := fun i => some (i * j.size, j.size)) (place' := fun i => some (i * j.size, j.size)) (fun _ _ h => h) _ _ _ _ (madeCells z.cells (len * j.size)) hl hv (zeros_rel (hzv γ') hst hlen hpos len) hz1 hf1
      refine ⟨vs, fun w => ?_, h4, h5⟩
      simp only [Instr.buildSlice, Sem.run_bind, run_under hu, Result.andThen_ok, run_size hJ]
      rw [if_neg (by omega)]
      by_cases h0 : len * j.size = 0
      · rw [if_pos h0]
        have hm : (Array.map (fun x => (#[] : Array Value)[x % (#[] : Array Value).size]!) (Array.range (len * j.size))) = madeCells z.cells (len * j.size) := by simp [h0, madeCells]
        simp only [Sem.run_bind, Sem.run_pure, Result.andThen_ok, hm, h3]
        simp [newRow]
      · rw [if_neg h0]
        have hm : (Array.map (fun x => z.cells[x % z.cells.size]!) (Array.range (len * j.size))) = madeCells z.cells (len * j.size) := rfl
        simp only [Sem.run_bind, Sem.run_pure, Result.andThen_ok, hz, hm, h3]
        simp [newRow]
    split
    · intro K b hK hb hlt hk
      obtain ⟨vs, h1, h2, h3⟩ := hrun γ hρ
      obtain ⟨γ', k1, k2, k3, k4⟩ := newRows hg hK hb hlt hk h2 h3 hj (Nat.le_refl len) (by rw [flatA_length xs hf2, hxl]) e
      exact ⟨_, _, γ', by rw [he, h1]; rfl, k1, k2, k3, k4⟩
    · intro K b hK hb hlt hk
      obtain ⟨vs, h1, h2, h3⟩ := hrun γ hρ
      have hvs : vs.size = len * j.size := by have := h2.1; rw [flatA_length xs hf2, hxl] at this; simpa using this.symm
      obtain ⟨γ', k1, k2, k3, k4⟩ := newList hK hb hlt hk hf2 h3 (by rw [hxl, ← hvs, show vs.size = vs.toList.length from by simp, List.take_length]; exact h2) (Nat.le_refl _) (by rw [hxl]; exact hvs) e
      rw [hxl] at k3
      exact ⟨_, _, γ', by rw [he, h1]; rfl, k1, k2, k3, k4⟩
  · cases h

theorem makeSliceA_sound (hC : CtxR C P) (hg : GR C γ) {mu : Bool} {t : Nat} {l c : AV} {vl vc : Value} (hl : VR γ l vl) (hc : VR γ c vc) {r : NR} (h : makeSliceA C mu t l c = some r) {s : Sem Next}
    (he : ∀ w, s.run P w = ((Instr.makeSlice t vl vc).run P w).andThen fun u w => .ok (.value u) w) : NSound P γ w r s := by
  rw [makeSliceA, Option.bind_eq_some_iff] at h
  obtain ⟨i, hi, h⟩ := h
  rw [Option.bind_eq_some_iff] at h
  obtain ⟨e, hs, h⟩ := h
  rw [Option.bind_eq_some_iff] at h
  obtain ⟨j, hj, h⟩ := h
  rw [Option.bind_eq_some_iff] at h
  obtain ⟨ln, hln, h⟩ := h
  rw [Option.bind_eq_some_iff] at h
  obtain ⟨cn, hcn, h⟩ := h
  obtain ⟨kl, rfl⟩ := natOf_inv hln hl
  obtain ⟨kc, rfl⟩ := natOf_inv hcn hc
  split at h
  · rename_i hcc
    simp only [Bool.and_eq_true, decide_eq_true_eq] at hcc
    obtain ⟨⟨hsn, hle⟩, hlim⟩ := hcc
    obtain ⟨hst, hlen, hpos⟩ := sound_inv hsn
    have hu := KR.of (hC.ti t i hi) (slice?_some hs)
    simp only [KR] at hu
    have hJ := hC.ti e j hj
    obtain ⟨inf, h1, h2, h3, z, h4, hzv⟩ := hJ.info
    have hb1 : (inf.bytes : Int) * (cn : Int) ≤ 281474976710656 := by
      have : inf.bytes * cn < 1099511627776 := by
        rw [h3, Nat.mul_comm]
        unfold lim at hlim
        rw [Nat.mul_add] at hlim
        omega
      have : ((inf.bytes * cn : Nat) : Int) ≤ 281474976710656 := by omega
      rwa [Int.natCast_mul] at this
    have hb2 : (cn : Int) ≤ 9223372036854775807 := by
      unfold lim at hlim
      have : cn ≤ cn * (j.bytes + 1) := Nat.le_mul_of_pos_right _ (by omega)
      omega
    have hrun := fun w => run_make (P := P) w t e inf z hu h1 h4 kl kc ln cn (by omega) (by omega) hb1 hb2
    simp only [Int.toNat_natCast, h2] at hrun
    have hrep : ∀ n x, x ∈ List.replicate n j.zero → (cellsOf x).length = j.size := fun n x hx => by rw [(List.mem_replicate.1 hx).2]; exact hlen
    have hone : ∀ n, ∀ x, x ∈ flatA (List.replicate n j.zero) → one x = true := fun n => flatA_one fun x hx y hy => by rw [(List.mem_replicate.1 hx).2] at hy; exact (VR.cells (hzv γ) hst).2 y hy
    have hz := fun n => zeros_rel (hzv γ) hst hlen hpos n
    cases h
    split
    · intro K b hK hb hlt hk
      obtain ⟨γ', k1, k2, k3, k4⟩ := newRows hg hK hb hlt hk (hz cn) (hone cn) hj hle (by rw [flatA_length _ (hrep cn)]; simp) e
      exact ⟨_, _, γ', by rw [he, hrun]; rfl, k1, k2, k3, k4⟩
    · intro K b hK hb hlt hk
      have htake : (madeCells z.cells (cn * j.size)).toList.take (ln * j.size) = (madeCells z.cells (ln * j.size)).toList := by
        simp only [madeCells, Array.toList_map, Array.toList_range, ← List.map_take, List.take_range]
        rw [Nat.min_eq_left (Nat.mul_le_mul_right _ hle)]
      obtain ⟨γ', k1, k2, k3, k4⟩ := newList hK hb hlt hk (sz := j.size) (cap := cn) (hrep ln) (hone ln) (vs := madeCells z.cells (cn * j.size)) (by rw [List.length_replicate, htake]; exact hz ln) (by simpa using hle) (by simp [madeCells]) e
      rw [List.length_replicate] at k3
      exact ⟨_, _, γ', by rw [he, hrun]; rfl, k1, k2, k3, k4⟩
  · cases h

/-! ### Lengths, conversions -/
theorem lenA_sound (hC : CtxR C P) (hH : HR γ H w) {t ty : Nat} {x a : AV} {v : Value} (hx : VR γ x v) (h : lenA C t x H = some a) (ts : List TypeId) : ∃ u, (Builtin.len_ (t :: ts).toArray ty #[v]).run P w = .ok u w ∧ VR γ a u := by
  rw [lenA, Option.bind_eq_some_iff] at h
  obtain ⟨i, hi, h⟩ := h
  have hT := hC.ti t i hi
  split at h
  · rename_i hk
    have hK := KR.of hT hk
    simp only [KR] at hK
    cases h
    obtain ⟨b, rfl, rfl⟩ := hx.str_inv
    exact ⟨goInt b.size, by simp [Builtin.len_, run_under hK], by simpa [goInt] using VR.int _ _⟩
  · rename_i hk; have hK := KR.of hT hk; simp only [KR] at hK; cases h; cases hx
    exact ⟨goInt 0, by simp [Builtin.len_, run_under hK], .int _ _⟩
  · rename_i hk; have hK := KR.of hT hk; simp only [KR] at hK; cases h
    cases hx with
    | vs c a1 a2 a3 a4 a5 a6 => exact ⟨_, by simp [Builtin.len_, run_under hK]; rfl, .int _ _⟩
  · rename_i hk; have hK := KR.of hT hk; simp only [KR] at hK; cases h
    cases hx with
    | rs o len e a1 a2 a3 => exact ⟨_, by simp [Builtin.len_, run_under hK]; rfl, .int _ _⟩
  · rename_i hk; have hK := KR.of hT hk; simp only [KR] at hK; cases h; cases hx
    exact ⟨goInt 0, by simp [Builtin.len_, run_under hK], .int _ _⟩
  · rename_i b hk
    have hK := KR.of hT hk
    simp only [KR] at hK
    obtain ⟨es, hes, rfl⟩ := Option.map_eq_some_iff.1 h
    cases hx with
    | map hr =>
      have := (hH.objs _ _ hr).2.1
      rw [map?_some hes] at this
      obtain ⟨es', cl, h1, h2, _⟩ := this
      refine ⟨goInt es'.size, by simp [Builtin.len_, run_under hK, getObj, Sem.run, h1], ?_⟩
      rw [h2]; exact .int _ _
  · cases h

theorem byteOf?_inv {x : AV} {b : UInt8} {v : Value} (h : byteOf? x = some b) (hv : VR γ x v) : ∃ n : Int, v = .int .u8 n ∧ UInt8.ofNat n.toNat = b := by
  unfold byteOf? at h
  split at h
  · cases h; exact ⟨_, hv.int_inv, rfl⟩
  · cases h

theorem bytesOf?_inv : ∀ {xs : List AV} {bs : List UInt8} {vs : List Value}, bytesOf? xs = some bs → VRs γ xs vs → ∃ ns : List Int, vs = ns.map (Value.int .u8) ∧ ns.map (fun n => UInt8.ofNat n.toNat) = bs
  | [], bs, vs, h, hv => by
    cases h
    have : vs = [] := by have := hv.1; simp at this; exact List.length_eq_zero_iff.1 this.symm
    exact ⟨[], by simp [this], rfl⟩
  | x :: xs, bs, [], h, hv => by have := hv.1; simp at this
  | x :: xs, bs, v :: vs, h, hv => by
    rw [bytesOf?, Option.bind_eq_some_iff] at h
    obtain ⟨b, hb, h⟩ := h
    obtain ⟨r, hr, rfl⟩ := Option.map_eq_some_iff.1 h
    obtain ⟨n, rfl, hn⟩ := byteOf?_inv hb hv.head
    obtain ⟨ns, rfl, hns⟩ := bytesOf?_inv hr hv.tail
    exact ⟨n :: ns, rfl, by simp [hn, hns]⟩

theorem bytes_fold : ∀ (ns : List Int) (s : ByteArray), (ns.foldl (fun r n => r.push (UInt8.ofNat n.toNat)) s).data.toList = s.data.toList ++ ns.map (fun n => UInt8.ofNat n.toNat)
  | [], s => by simp
  | n :: ns, s => by rw [List.foldl_cons, bytes_fold ns]; simp [ByteArray.push]

theorem bytesOf?_one : ∀ {xs : List AV} {bs : List UInt8}, bytesOf? xs = some bs → ∀ x, x ∈ xs → cellsOf x = [x]
  | [], _, _, x, hx => by simp at hx
  | y :: xs, bs, h, x, hx => by
    rw [bytesOf?, Option.bind_eq_some_iff] at h
    obtain ⟨b, hb, h⟩ := h
    obtain ⟨r, hr, _⟩ := Option.map_eq_some_iff.1 h
    rcases List.mem_cons.1 hx with rfl | hx
    · unfold byteOf? at hb
      split at hb
      · rfl
      · cases hb
    · exact bytesOf?_one hr x hx

theorem row_bytes {xs : List AV} {bs : List UInt8} (h : bytesOf? xs = some bs) {B base : Nat} (hr : Row γ w xs B base) (cap : Nat) :
    ∃ s, (Conv.bytesToString (.slice (some ⟨B, base, none⟩) xs.length cap)).run P w = .ok (.string s) w ∧ s.data.toList = bs := by
  obtain ⟨vs, h1, h2⟩ := hr.loadCells (P := P)
  obtain ⟨ns, h3, h4⟩ := bytesOf?_inv h h2
  have e : vs = (ns.map (Value.int .u8)).toArray := by apply Array.ext'; simpa using h3
  rw [e] at h1
  exact ⟨_, run_bytesToString w _ _ cap ns h1, by rw [bytes_fold]; simpa using h4⟩

theorem convA_sound (hC : CtxR C P) (hH : HR γ H w) {s d : Nat} {x a : AV} {v : Value} (hx : VR γ x v) (h : convA C s d x H = some a) : ∃ u, (convert s d v).run P w = .ok u w ∧ VR γ a u := by
  rw [convA, Option.bind_eq_some_iff] at h
  obtain ⟨i, hi, h⟩ := h
  rw [Option.bind_eq_some_iff] at h
  obtain ⟨j, hj, h⟩ := h
  have hT := hC.ti s i hi
  have hU := hC.ti d j hj
  split at h
  · rename_i hk hk'
    have hK := KR.of hT hk
    have hK' := KR.of hU hk'
    simp only [KR] at hK hK'
    cases h
    rw [hx.int_inv]
    exact ⟨_, by simp [convert, run_under hK, run_under hK', Conv.intToInt], .int _ _⟩
  · rename_i hk hk'
    have hK := KR.of hT hk
    have hK' := KR.of hU hk'
    simp only [KR] at hK hK'
    cases h
    obtain ⟨b, rfl, rfl⟩ := hx.str_inv
    exact ⟨_, by simp [convert, run_under hK, run_under hK'], .str _ _ rfl⟩
  · rename_i e hk hk'
    have hK := KR.of hT hk
    have hK' := KR.of hU hk'
    simp only [KR] at hK hK'
    rw [Option.bind_eq_some_iff] at h
    obtain ⟨q, hq, h⟩ := h
    split at h
    · rename_i hkq
      have hKq := KR.of (hC.ti e q hq) hkq
      simp only [KR] at hKq
      split at h
      · rename_i hs1
        split at h
        · cases h; cases hx
          refine ⟨.string .empty, ?_, .str _ _ rfl⟩
          rw [run_convert_bytes_string w s d e _ _ _ hK hKq hK']
          simp [Conv.bytesToString]
        · rename_i xs tok
          obtain ⟨bs, hbs, rfl⟩ := Option.map_eq_some_iff.1 h
          cases hx with
          | @vs _ _ B base cap sz c h1 hsz hlv hv hcap htok =>
            have hone := bytesOf?_one hbs
            have hr : Row γ w xs B base := fun k x hx => by
              have hc := hone x (List.mem_of_getElem? hx)
              have hs2 := hsz k x hx
              rw [hc] at hs2
              have hs3 : sz = 1 := by simpa using hs2.symm
              have a1 := hlv k x 0 x hx (by rw [hc]; rfl)
              rw [hs3, Nat.mul_one, Nat.add_zero] at a1
              exact ⟨_, hH.lock _ _ _ a1, hv k x 0 x hx (by rw [hc]; rfl), h1 x (List.mem_of_getElem? hx) x (by rw [hc]; simp)⟩
            obtain ⟨u, a1, a2⟩ := row_bytes (P := P) hbs hr cap
            exact ⟨_, by rw [run_convert_bytes_string w s d e _ _ _ hK hKq hK']; exact a1, .str _ _ a2⟩
        · rename_i b o len e'
          rw [Option.bind_eq_some_iff] at h
          obtain ⟨cs, hcs, h⟩ := h
          rw [Option.bind_eq_some_iff] at h
          obtain ⟨r, hr0, h⟩ := h
          obtain ⟨bs, hbs, rfl⟩ := Option.map_eq_some_iff.1 h
          cases hx with
          | @rs _ B base ext cap _ _ _ hr hcap hext =>
            obtain ⟨hrow, hlen⟩ := (hH.row hr (cells?_some hcs)).sub hr0
            obtain ⟨u, a1, a2⟩ := row_bytes (P := P) hbs hrow cap
            rw [hlen] at a1
            exact ⟨_, by rw [run_convert_bytes_string w s d e _ _ _ hK hKq hK']; exact a1, .str _ _ a2⟩
        · cases h
      · cases h
    · cases h
  · cases h

end
end Go.AM

/-
  THE ABSTRACT MACHINE, tenth text: the operations without an effect are sound, last part: maps, assertions; all of them together.
-/
namespace Go.AM
section
variable {C : Ctx} {P : Program} {γ : Gh} {H : Heap} {w : World}

/-! ### Keys -/
def idxK (k : AV) : List (AV × AV) → Nat
  | [] => 0
  | e :: es => if eqKey k e.1 = some true then 0 else idxK k es + 1

theorem put_none {k v : AV} : ∀ {es es2 : List (AV × AV)}, findK k es = some none → putK k v es = some es2 → es2 = es ++ [(k, v)]
  | [], es2, _, h => by cases h; rfl
  | e :: es, es2, hf, h => by
    rw [findK, Option.bind_eq_some_iff] at hf
    obtain ⟨b, hb, hf⟩ := hf
    rw [putK, Option.bind_eq_some_iff] at h
    obtain ⟨b', hb', h⟩ := h
    rw [hb] at hb'; cases hb'
    split at hf
    · cases hf
    · rename_i hn
      rw [if_neg hn] at h
      obtain ⟨r, hr, rfl⟩ := Option.map_eq_some_iff.1 h
      rw [put_none hf hr]; rfl

theorem put_some {k v x : AV} : ∀ {es es2 : List (AV × AV)}, findK k es = some (some x) → putK k v es = some es2 → es2 = es.set (idxK k es) (k, v) ∧ idxK k es < es.length ∧ ∃ e, es[idxK k es]? = some e ∧ eqKey k e.1 = some true
  | [], es2, hf, _ => by cases hf
  | e :: es, es2, hf, h => by
    rw [findK, Option.bind_eq_some_iff] at hf
    obtain ⟨b, hb, hf⟩ := hf
    rw [putK, Option.bind_eq_some_iff] at h
    obtain ⟨b', hb', h⟩ := h
    rw [hb] at hb'; cases hb'
    cases b with
    | true => simp at h; subst h; simp [idxK, hb]
    | false =>
      simp at hf h
      obtain ⟨r, hr, rfl⟩ := h
      obtain ⟨h1, h2, e', h3, h4⟩ := put_some hf hr
      refine ⟨by rw [idxK, if_neg (by rw [hb]; simp), h1]; rfl, by rw [idxK, if_neg (by rw [hb]; simp)]; simpa using h2, e', by rw [idxK, if_neg (by rw [hb]; simp)]; simpa using h3, h4⟩

/-- Two plain values that are equal are one value. -/
theorem eqS_val {a b : AV} {u v : Value} (h : eqS a b = some true) (ha : VR γ a u) (hb : VR γ b v) : u = v ∧ ∀ n, Instr.sameBits n u v = true := by
  unfold eqS at h
  split at h
  · have := ha.bool_inv; have := hb.bool_inv; subst_vars
    simp at h; subst h
    exact ⟨rfl, fun n => by cases n <;> simp [Instr.sameBits]⟩
  · split at h
    · rename_i hk
      have := ha.int_inv; have := hb.int_inv; subst_vars
      simp at h; subst h
      exact ⟨rfl, fun n => by cases n <;> simp [Instr.sameBits]⟩
    · cases h
  · obtain ⟨s, rfl, h1⟩ := ha.str_inv
    obtain ⟨s', rfl, h2⟩ := hb.str_inv
    simp at h
    have : s = s' := by
      have e := str_beq s s'
      rw [h1, h2, h] at e
      cases s; cases s'
      congr
      apply Array.toList_inj.1
      exact h1.trans (h.trans h2.symm)
    subst this
    have hb : (s == s) = true := by rw [str_beq]; simp
    exact ⟨rfl, fun n => by cases n <;> simp [Instr.sameBits, hb]⟩
  · cases h

theorem eqSs_val : ∀ {a b : List AV} {u v : List Value}, eqSs a b = some true → VRs γ a u → VRs γ b v → u = v ∧ ∀ n, ∀ p, p ∈ u.zip v → Instr.sameBits n p.1 p.2 = true
  | [], [], u, v, _, ha, hb => by
    have h1 : u = [] := List.length_eq_zero_iff.1 (by simpa using ha.1.symm)
    have h2 : v = [] := List.length_eq_zero_iff.1 (by simpa using hb.1.symm)
    subst h1; subst h2; exact ⟨rfl, fun n p hp => by simp at hp⟩
  | [], _ :: _, _, _, h, _, _ => by cases h
  | _ :: _, [], _, _, h, _, _ => by cases h
  | x :: a, y :: b, [], _, _, ha, _ => by have := ha.1; simp at this
  | x :: a, y :: b, _, [], _, _, hb => by have := hb.1; simp at this
  | x :: a, y :: b, u :: us, v :: vs, h, ha, hb => by
    rw [eqSs, Option.bind_eq_some_iff] at h
    obtain ⟨p, hp, h⟩ := h
    obtain ⟨q, hq, h⟩ := Option.map_eq_some_iff.1 h
    simp only [Bool.and_eq_true] at h
    obtain ⟨rfl, rfl⟩ := h
    obtain ⟨rfl, h1⟩ := eqS_val hp ha.head hb.head
    obtain ⟨rfl, h2⟩ := eqSs_val hq ha.tail hb.tail
    refine ⟨rfl, fun n p hp => ?_⟩
    simp only [List.zip_cons_cons, List.mem_cons] at hp
    rcases hp with rfl | hp
    · exact h1 n
    · exact h2 n p hp

theorem eqKey_val {a b : AV} {u v : Value} (h : eqKey a b = some true) (ha : VR γ a u) (hb : VR γ b v) : u = v ∧ Instr.sameBits 10000 u v = true := by
  unfold eqKey at h
  split at h
  · obtain ⟨xs, rfl, hx, _⟩ := ha.agg_inv
    obtain ⟨ys, rfl, hy, _⟩ := hb.agg_inv
    obtain ⟨h1, h2⟩ := eqSs_val h hx hy
    have : xs = ys := Array.toList_inj.1 h1
    subst this
    refine ⟨rfl, ?_⟩
    show Instr.sameBits (9999 + 1) _ _ = true
    simp only [Instr.sameBits, BEq.rfl, Bool.true_and, List.all_eq_true]
    exact fun p hp => h2 9999 p hp
  · cases h
  · obtain ⟨h1, h2⟩ := eqS_val h ha hb; exact ⟨h1, h2 _⟩

/-- Entries, one by one. -/
def EntR (γ : Gh) (es : List (AV × AV)) (es' : List MapEntry) : Prop := es.length = es'.length ∧ ∀ (i : Nat) (e : AV × AV) (e' : MapEntry), es[i]? = some e → es'[i]? = some e' → VR γ e.1 e'.key ∧ VR γ e.2 e'.val

theorem EntR.head {e : AV × AV} {es : List (AV × AV)} {e' : MapEntry} {es' : List MapEntry} (h : EntR γ (e :: es) (e' :: es')) : VR γ e.1 e'.key ∧ VR γ e.2 e'.val := h.2 0 e e' rfl rfl
theorem EntR.tail {e : AV × AV} {es : List (AV × AV)} {e' : MapEntry} {es' : List MapEntry} (h : EntR γ (e :: es) (e' :: es')) : EntR γ es es' :=
  ⟨by have := h.1; simpa using this, fun i a a' ha ha' => h.2 (i + 1) a a' (by simpa using ha) (by simpa using ha')⟩

theorem eqS_now {kind : TypeDesc} {a b : AV} {u v : Value} {r : Bool} (h : eqS a b = some r) (ha : VR γ a u) (hb : VR γ b v) (hk : (∃ k n q, a = .int k n ∧ kind = .int q) ∨ (∃ s, a = .str s ∧ kind = .string) ∨ (∃ x, a = .bool x ∧ kind = .bool)) :
    Instr.sameNow kind u v = some r := by
  unfold eqS at h
  split at h
  · have := ha.bool_inv; have := hb.bool_inv; subst_vars
    rcases hk with ⟨k, n, q, h1, _⟩ | ⟨s, h1, _⟩ | ⟨x, _, rfl⟩
    · cases h1
    · cases h1
    · simpa [Instr.sameNow] using h
  · have := ha.int_inv; have := hb.int_inv; subst_vars
    split at h
    · rename_i hkk
      rcases hk with ⟨k, n, q, h1, rfl⟩ | ⟨s, h1, _⟩ | ⟨x, h1, _⟩
      · simpa [Instr.sameNow, hkk] using h
      · cases h1
      · cases h1
    · cases h
  · obtain ⟨s, rfl, h1⟩ := ha.str_inv
    obtain ⟨s', rfl, h2⟩ := hb.str_inv
    rcases hk with ⟨k, n, q, h3, _⟩ | ⟨s, _, rfl⟩ | ⟨x, h3, _⟩
    · cases h3
    · simp only [Instr.sameNow, str_beq, h1, h2]; exact h
    · cases h3
  · cases h

theorem findNow_sound {kind : TypeDesc} {k : AV} {kv : Value} (hk : VR γ k kv) (hn : ∀ a, k ≠ .agg a) (hkind : (∃ q n q', k = .int q n ∧ kind = .int q') ∨ (∃ s, k = .str s ∧ kind = .string) ∨ (∃ x, k = .bool x ∧ kind = .bool)) :
    ∀ (es : List (AV × AV)) (es' : List MapEntry) (n : Nat) (r : Option AV), EntR γ es es' → findK k es = some r →
    ∃ r', Instr.findNow kind kv es' n = some r' ∧ (r = none → r' = none) ∧ ∀ v, r = some v → ∃ v', r' = some (n + idxK k es, v') ∧ VR γ v v'
  | [], [], n, r, _, h => by cases h; exact ⟨none, rfl, (fun _ => rfl), (fun v h => by cases h)⟩
  | [], _ :: _, _, _, he, _ => by have := he.1; simp at this
  | _ :: _, [], _, _, he, _ => by have := he.1; simp at this
  | e :: es, e' :: es', n, r, he, h => by
    rw [findK, Option.bind_eq_some_iff] at h
    obtain ⟨b, hb, h⟩ := h
    have hb' : eqS k e.1 = some b := by
      unfold eqKey at hb
      split at hb
      · exact absurd rfl (hn _)
      · cases hb
      · exact hb
    have hs := eqS_now hb' hk he.head.1 hkind
    cases b with
    | true =>
      simp at h; subst h
      exact ⟨some (n, e'.val), by simp [Instr.findNow, hs], (fun h => by cases h), (fun v hv => by cases hv; exact ⟨e'.val, by simp [idxK, hb], he.head.2⟩)⟩
    | false =>
      simp at h
      obtain ⟨r', h1, h2, h3⟩ := findNow_sound hk hn hkind es es' (n + 1) r he.tail h
      refine ⟨r', by simp [Instr.findNow, hs, h1], h2, fun v hv => ?_⟩
      obtain ⟨v', h4, h5⟩ := h3 v hv
      exact ⟨v', by rw [h4, idxK, if_neg (by rw [hb]; simp)]; congr 2; omega, h5⟩

theorem findAsking_sound {kt : Nat} {i : TI} (hq : EqP P kt i) {a : List AV} (hal : shapeOk i a = true) {kv : Value} (hk : VR γ (.agg a) kv) :
    ∀ (es : List (AV × AV)) (es' : List MapEntry) (n : Nat) (r : Option AV), EntR γ es es' → findK (.agg a) es = some r →
    ∃ r', (Instr.findAsking kt kv es' n).run P w = .ok r' w ∧ (r = none → r' = none) ∧ ∀ v, r = some v → ∃ v', r' = some (n + idxK (.agg a) es, v') ∧ VR γ v v'
  | [], [], n, r, _, h => by cases h; exact ⟨none, rfl, (fun _ => rfl), (fun v h => by cases h)⟩
  | [], _ :: _, _, _, he, _ => by have := he.1; simp at this
  | _ :: _, [], _, _, he, _ => by have := he.1; simp at this
  | e :: es, e' :: es', n, r, he, h => by
    rw [findK, Option.bind_eq_some_iff] at h
    obtain ⟨b, hb, h⟩ := h
    have hb2 := hb
    unfold eqKey at hb
    split at hb
    · rename_i a1 b1 e1 e2
      cases e1
      obtain ⟨xs, rfl, hx, _⟩ := hk.agg_inv
      have h1 := he.head.1
      rw [e2] at h1
      obtain ⟨ys, h2, hy, _⟩ := h1.agg_inv
      have hrun := hq.eq γ _ _ xs ys b w hal hx hy hb
      rw [← h2] at hrun
      cases b with
      | true =>
        simp at h; subst h
        exact ⟨some (n, e'.val), by simp [Instr.findAsking, hrun], (fun h => by cases h), (fun v hv => by cases hv; exact ⟨e'.val, by simp [idxK, hb2], he.head.2⟩)⟩
      | false =>
        simp at h
        obtain ⟨r', h1, h2, h3⟩ := findAsking_sound hq hal hk es es' (n + 1) r he.tail h
        refine ⟨r', by simp [Instr.findAsking, hrun, h1], h2, fun v hv => ?_⟩
        obtain ⟨v', h4, h5⟩ := h3 v hv
        exact ⟨v', by rw [h4, idxK, if_neg (by rw [hb2]; simp)]; congr 2; omega, h5⟩
    · cases hb
    · rename_i hne _
      exact absurd rfl (hne _)

theorem findKey_now {kt : Nat} {kind : TypeDesc} {k : AV} {kv : Value} (hu : P.underlying kt = some kind) (hk : VR γ k kv) (hn : ∀ a, k ≠ .agg a) (hkind : (∃ q n q', k = .int q n ∧ kind = .int q') ∨ (∃ s, k = .str s ∧ kind = .string) ∨ (∃ x, k = .bool x ∧ kind = .bool))
    (es : List (AV × AV)) (es' : List MapEntry) (r : Option AV) (he : EntR γ es es') (hf : findK k es = some r) :
    ∃ r', (Instr.findKey kt kv es').run P w = .ok r' w ∧ (r = none → r' = none) ∧ ∀ v, r = some v → ∃ v', r' = some (idxK k es, v') ∧ VR γ v v' := by
  obtain ⟨r', h1, h2, h3⟩ := findNow_sound hk hn hkind es es' 0 r he hf
  refine ⟨r', by simp [Instr.findKey, run_under hu, h1], h2, fun v hv => ?_⟩
  obtain ⟨v', h4, h5⟩ := h3 v hv
  exact ⟨v', by rw [h4, Nat.zero_add], h5⟩

theorem findKey_asking {kt : Nat} {kind : TypeDesc} (hu : P.underlying kt = some kind) {i : TI} (hq : EqP P kt i) {a : List AV} (hal : shapeOk i a = true) {kv : Value} (hk : VR γ (.agg a) kv)
    (es : List (AV × AV)) (es' : List MapEntry) (r : Option AV) (he : EntR γ es es') (hf : findK (.agg a) es = some r) :
    ∃ r', (Instr.findKey kt kv es').run P w = .ok r' w ∧ (r = none → r' = none) ∧ ∀ v, r = some v → ∃ v', r' = some (idxK (.agg a) es, v') ∧ VR γ v v' := by
  obtain ⟨r', h1, h2, h3⟩ := findAsking_sound (w := w) hq hal hk es es' 0 r he hf
  obtain ⟨xs, rfl, _, _⟩ := hk.agg_inv
  refine ⟨r', ?_, h2, fun v hv => ?_⟩
  · simp only [Instr.findKey, Sem.run_bind, run_under hu, Result.andThen_ok]
    cases es' with
    | nil =>
      have hl := he.1
      cases es with
      | nil => cases hf; cases h2 rfl; rfl
      | cons => simp at hl
    | cons e es' =>
      have : Instr.sameNow kind (.agg xs) e.key = none := by unfold Instr.sameNow; split <;> first | rfl | (rename_i hh; cases hh) | simp_all
      simp [Instr.findNow, this, h1]
  · obtain ⟨v', h4, h5⟩ := h3 v hv
    exact ⟨v', by rw [h4, Nat.zero_add], h5⟩

theorem checkKey_scal {kt d : Nat} {kind : TypeDesc} {kv : Value} {e : Bool} (hu : P.underlying kt = some kind) (hk : (∃ q n q', kv = .int q n ∧ kind = .int q') ∨ (∃ s, kv = .string s ∧ kind = .string) ∨ (∃ x, kv = .bool x ∧ kind = .bool)) :
    (Instr.checkKey e (d + 1) kt kv).run P w = .ok () w := by
  rcases hk with ⟨q, n, q', rfl, rfl⟩ | ⟨s, rfl, rfl⟩ | ⟨x, rfl, rfl⟩ <;> simp [Instr.checkKey, run_under hu]

theorem key_sound (hC : CtxR C P) {kt : Nat} {k : AV} {kv : Value} (hk : VR γ k kv) (ho : keyOk C kt k = true) :
    (∀ e w, (Instr.checkKey e 10000 kt kv).run P w = .ok () w) ∧
    ∀ (es : List (AV × AV)) (es' : List MapEntry) (r : Option AV), EntR γ es es' → findK k es = some r → ∀ w,
      ∃ r', (Instr.findKey kt kv es').run P w = .ok r' w ∧ (r = none → r' = none) ∧ ∀ v, r = some v → ∃ v', r' = some (idxK k es, v') ∧ VR γ v v' := by
  unfold keyOk at ho
  split at ho
  · cases ho
  · rename_i i hi
    have hT := hC.ti kt i hi
    split at ho
    · rename_i q q' n hkk
      have hK := KR.of hT hkk
      simp only [KR] at hK
      have := hk.int_inv
      subst this
      exact ⟨fun e w => checkKey_scal (d := 9999) hK (.inl ⟨_, _, _, rfl, rfl⟩), fun es es' r he hf w => findKey_now hK hk (fun a h => by cases h) (.inl ⟨_, _, _, rfl, rfl⟩) es es' r he hf⟩
    · rename_i s hkk
      have hK := KR.of hT hkk
      simp only [KR] at hK
      obtain ⟨b, rfl, _⟩ := hk.str_inv
      exact ⟨fun e w => checkKey_scal (d := 9999) hK (.inr (.inl ⟨_, rfl, rfl⟩)), fun es es' r he hf w => findKey_now hK hk (fun a h => by cases h) (.inr (.inl ⟨_, rfl, rfl⟩)) es es' r he hf⟩
    · rename_i b hkk
      have hK := KR.of hT hkk
      simp only [KR] at hK
      have := hk.bool_inv
      subst this
      exact ⟨fun e w => checkKey_scal (d := 9999) hK (.inr (.inr ⟨_, rfl, rfl⟩)), fun es es' r he hf w => findKey_now hK hk (fun a h => by cases h) (.inr (.inr ⟨_, rfl, rfl⟩)) es es' r he hf⟩
    · rename_i fs a hkk
      simp only [Bool.and_eq_true] at ho
      have hq := hC.eqp kt i hi ho.1.1
      have hself : eqSs a a = some true := by
        cases he : eqSs a a with
        | none => simp [he] at ho
        | some b => simp [he] at ho; rw [ho.2]
      obtain ⟨f, hf, _⟩ : ∃ f : Array Field, P.underlying kt = some (.struct f) ∧ f.toList.map (fun x => (x.offset, x.type)) = fs := KR.of hT hkk
      refine ⟨fun e w => ?_, fun es es' r he hf' w => findKey_asking hf hq ho.1.2 hk es es' r he hf'⟩
      obtain ⟨xs, rfl, hx, _⟩ := hk.agg_inv
      exact hq.key γ a xs e w ho.1.2 hx hself
    · cases ho

/-- What a map is. -/
theorem mapOf_sound (hH : HR γ H w) {m : AV} {v : Value} (hm : VR γ m v) {es : List (AV × AV)} (h : mapOf H m = some es) :
    (v = .map none ∧ es = []) ∨ ∃ r es' clock, v = .map (some r) ∧ w.heap[r]? = some (.map es' clock) ∧ EntR γ es es'.toList := by
  cases hm with
  | mapNil => simp [mapOf] at h; exact .inl ⟨rfl, h⟩
  | @map b r hr =>
    have hb := map?_some h
    obtain ⟨_, h2, _⟩ := hH.objs b r hr
    rw [hb] at h2
    obtain ⟨es', cl, h3, h4, h5⟩ := h2
    exact .inr ⟨r, es', cl, rfl, h3, by simpa using h4, fun i e e' he he' => h5 i e e' he (by simpa using he')⟩
  | _ => cases h

theorem lookupA_sound (hC : CtxR C P) (hH : HR γ H w) {t : Nat} {m k a : AV} {vm vk : Value} {ok : Bool} (hm : VR γ m vm) (hk : VR γ k vk) (h : lookupA C t m k ok H = some a) :
    ∃ u, (Instr.lookup t vm vk ok).run P w = .ok u w ∧ VR γ a u := by
  obtain ⟨i, hi, h⟩ := Option.bind_eq_some_iff.1 h
  obtain ⟨ke, hke, h⟩ := Option.bind_eq_some_iff.1 h
  obtain ⟨j, hj, h⟩ := Option.bind_eq_some_iff.1 h
  split at h
  · rename_i hok
    obtain ⟨es, hes, h⟩ := Option.bind_eq_some_iff.1 h
    obtain ⟨r, hr, rfl⟩ := Option.map_eq_some_iff.1 h
    have hK := KR.of (hC.ti t i hi) (map?'_some hke)
    simp only [KR] at hK
    obtain ⟨z, hz, hzr⟩ := run_zero (hC.ti _ j hj)
    obtain ⟨hc, hf⟩ := key_sound hC hk hok
    rcases mapOf_sound hH hm hes with ⟨rfl, rfl⟩ | ⟨q, es', cl, rfl, h3, h4⟩
    · obtain ⟨r', h1, h2, h3⟩ := hf [] [] r ⟨rfl, fun i e e' he => by simp at he⟩ hr w
      cases hr
      cases h2 rfl
      cases ok with
      | true => exact ⟨.tuple #[z, .bool false], by simp [Instr.lookup, run_under hK, hc, h1, hz], VRs.tuple (VRs.cons (hzr γ) (VRs.cons (.bool _) VRs.nil))⟩
      | false => exact ⟨z, by simp [Instr.lookup, run_under hK, hc, h1, hz], hzr γ⟩
    · obtain ⟨r', h1, h2, h5⟩ := hf es es'.toList r h4 hr w
      have hgo : (getObj q).run P w = .ok (.map es' cl) w := by simp [getObj, Sem.run, h3]
      cases r with
      | none =>
        cases h2 rfl
        cases ok with
        | true => exact ⟨.tuple #[z, .bool false], by simp [Instr.lookup, run_under hK, hgo, hc, h1, hz], VRs.tuple (VRs.cons (hzr γ) (VRs.cons (.bool _) VRs.nil))⟩
        | false => exact ⟨z, by simp [Instr.lookup, run_under hK, hgo, hc, h1, hz], hzr γ⟩
      | some x =>
        obtain ⟨v', rfl, h6⟩ := h5 x rfl
        cases ok with
        | true => exact ⟨.tuple #[v', .bool true], by simp [Instr.lookup, run_under hK, hgo, hc, h1], VRs.tuple (VRs.cons h6 (VRs.cons (.bool _) VRs.nil))⟩
        | false => exact ⟨v', by simp [Instr.lookup, run_under hK, hgo, hc, h1], h6⟩
  · cases h

/-- The type is no interface. -/
theorem not_iface {t : Nat} {i : TI} (hT : TIR P t i) (hi : i.isIface = false) : ∃ d, P.underlying t = some d ∧ ∀ ms, d ≠ .interface ms := by
  have hk := hT.k
  cases hik : i.k with
  | iface => simp [TI.isIface, hik] at hi
  | other => rw [hik] at hk; exact hk
  | struct fs => rw [hik] at hk; obtain ⟨f, h1, _⟩ := hk; exact ⟨_, h1, fun ms h => by cases h⟩
  | func => rw [hik] at hk; obtain ⟨a, b, c, h1⟩ := hk; exact ⟨_, h1, fun ms h => by cases h⟩
  | _ => rw [hik] at hk; exact ⟨_, hk, fun ms h => by cases h⟩

theorem typeAssertA_sound (hC : CtxR C P) {t at_ : Nat} {x a : AV} {v : Value} {ok : Bool} (hx : VR γ x v) (h : typeAssertA C x at_ ok = some a) :
    ∃ u, (Instr.typeAssert v t at_ ok).run P w = .ok u w ∧ VR γ a u := by
  obtain ⟨i, hi, h⟩ := Option.bind_eq_some_iff.1 h
  have hT := hC.ti _ i hi
  by_cases hif : i.isIface = true
  · rw [if_pos hif] at h; cases h
  · rw [if_neg hif] at h
    obtain ⟨d, hd, hn⟩ := not_iface hT (by simpa using hif)
    obtain ⟨z, hz, hzr⟩ := run_zero hT
    cases hx with
    | nilIface =>
      cases ok with
      | false => simp at h
      | true =>
        simp at h; subst h
        refine ⟨.tuple #[z, .bool false], ?_, VRs.tuple (VRs.cons (hzr γ) (VRs.cons (.bool _) VRs.nil))⟩
        simp only [Instr.typeAssert, Sem.run_bind, run_under hd, Result.andThen_ok]
        cases d with
        | interface ms => exact absurd rfl (hn ms)
        | _ => simp [hz]
    | @iface x v t' hx =>
      by_cases ht : t' = at_
      · simp only [ht, if_true, Option.some.injEq] at h
        subst h
        refine ⟨if ok then .tuple #[v, .bool true] else v, ?_, ?_⟩
        · simp only [Instr.typeAssert, Sem.run_bind, run_under hd, Result.andThen_ok]
          cases d with
          | interface ms => exact absurd rfl (hn ms)
          | _ => simp [ht]
        · cases ok with
          | true => exact VRs.tuple (VRs.cons hx (VRs.cons (.bool _) VRs.nil))
          | false => exact hx
      · simp only [ht, if_false] at h
        cases ok with
        | false => simp at h
        | true =>
          simp at h; subst h
          refine ⟨.tuple #[z, .bool false], ?_, VRs.tuple (VRs.cons (hzr γ) (VRs.cons (.bool _) VRs.nil))⟩
          simp only [Instr.typeAssert, Sem.run_bind, run_under hd, Result.andThen_ok]
          cases d with
          | interface ms => exact absurd rfl (hn ms)
          | _ => simp [ht, hz]
    | _ => cases h

theorem run_newObj (o : Obj) (w : World) : (newObj o).run P w = .ok w.heap.size (w.alloc o) := rfl

/-- A new object by an operation. -/
theorem newObj_sound {s : Sem Next} {o : Obj} {f : Nat → AV} {x : AB} {g : Nat → Value} (hs : ∀ w, s.run P w = .ok (.value (g w.heap.size)) (w.alloc o)) (hx : ∀ γ', γ.Le γ' → ObjR γ' x (some o))
    (hno : ∀ (c : Array Value) (e : TypeId) (f : Nat × Nat), o ≠ .cells c e f) (hf : ∀ γ' b r, γ'.rho b = some (.obj r) → VR γ' (f b) (g r)) (w : World) : NSound P γ w (.new f x) s := by
  intro K b hK hb hlt hk
  obtain ⟨h1, h2⟩ := hK.alloc_obj hb hlt o (by rw [hk]; exact hx) hno
  exact ⟨_, _, _, hs w, h1, h2, hf _ _ _ (by simp [Gh.at]), fun j hj => by simp [Gh.at, hj]⟩

theorem list_one {ρ : Operand → AV} {σ : Operand → Value} (hρ : ∀ x, VR γ (ρ x) (σ x)) (l : Array Operand) : VRs γ (l.toList.map ρ) (l.map σ).toList := by
  refine ⟨by simp, fun i x v hx hv => ?_⟩
  simp at hx hv
  obtain ⟨o, h1, rfl⟩ := hx
  obtain ⟨o', h2, rfl⟩ := hv
  rw [h1] at h2; cases h2
  exact hρ _

theorem neutral {u v : Value} (h : ∀ k a k' b, u = .int k a → v = .int k' b → False) (h2 : ∀ a b, u = .string a → v = .string b → False) (h3 : ∀ k a k' b, u = .float k a → v = .float k' b → False) (h4 : ∀ k a b k' c d, u = .complex k a b → v = .complex k' c d → False) (t : Nat) :
    binOp .eql t u v = (do pure (.bool (← Op.equal t u v))) ∧ binOp .neq t u v = (do pure (.bool (!(← Op.equal t u v)))) := by
  constructor
  all_goals
    unfold binOp
    split <;> first
      | exact (h _ _ _ _ rfl rfl).elim
      | exact (h2 _ _ rfl rfl).elim
      | exact (h3 _ _ _ _ rfl rfl).elim
      | exact (h4 _ _ _ _ _ _ rfl rfl).elim
      | rfl
      | (rename_i h5; cases h5; done)
      | simp_all

theorem binV_sound (hC : CtxR C P) {op : BinOp} {t : Nat} {ox oy : Operand} {x y a : AV} {u v : Value} (hx : VR γ x u) (hy : VR γ y v) (h : binV C op t (isConst ox || isConst oy) x y = some a) :
    ∃ r, (do eqGuard op t ox oy u v; binOp op t u v : Sem Value).run P w = .ok r w ∧ VR γ a r := by
  unfold binV at h
  split at h
  · rename_i k m k' n
    have e1 := hx.int_inv; have e2 := hy.int_inv; subst e1; subst e2
    split at h
    · rename_i hk
      obtain ⟨r, h1, h2⟩ := arith_run (P := P) (γ := γ) (w := w) (t := t) (by simpa using hk) h
      refine ⟨r, ?_, h2⟩
      rw [Sem.run_bind, guard_scal (fun c h => by cases h) (fun h => by cases h)]
      exact h1
    · cases h
  · obtain ⟨s1, rfl, rfl⟩ := hx.str_inv
    obtain ⟨s2, rfl, rfl⟩ := hy.str_inv
    obtain ⟨r, h1, h2⟩ := strOp_run (P := P) (γ := γ) (w := w) h
    refine ⟨r, ?_, h2⟩
    rw [Sem.run_bind, guard_scal (fun c h => by cases h) (fun h => by cases h)]
    have e : binOp op t (.string s1) (.string s2) = Op.stringOp op s1 s2 := by cases op <;> rfl
    simp only [Result.andThen_ok, e]
    exact h1
  · rename_i n1 n2
    have main : ∀ b, eqlV C t (isConst ox || isConst oy) x y = some b → (Op.equal t u v).run P w = .ok b w ∧ (eqGuard op t ox oy u v).run P w = .ok () w ∧ binOp .eql t u v = (do pure (.bool (← Op.equal t u v))) ∧ binOp .neq t u v = (do pure (.bool (!(← Op.equal t u v)))) := by
      intro b hb
      obtain ⟨h1, h2⟩ := eqlV_run (w := w) hC hx hy hb
      refine ⟨h1, ?_, ?_⟩
      · rcases h2 with ⟨a', b', rfl, rfl, h3⟩ | ⟨h3, h4⟩
        · exact guard_agg h3
        · exact guard_scal h3 h4
      · have hb' : x ≠ .bad := fun e => by
          subst e
          rw [eqlV, Option.bind_eq_some_iff] at hb
          obtain ⟨i, _, hb⟩ := hb
          split at hb <;> simp_all
        have hb2 : y ≠ .bad := fun e => by
          subst e
          rw [eqlV, Option.bind_eq_some_iff] at hb
          obtain ⟨i, _, hb⟩ := hb
          split at hb <;> simp_all
        refine neutral (fun k a k' b e1 e2 => ?_) (fun a b e1 e2 => ?_) (fun k a k' b e1 e2 => ?_) (fun k a b k' c d e1 e2 => ?_) t
        · subst e1; subst e2
          cases hx with
          | bad => exact hb' rfl
          | int => cases hy with
            | bad => exact hb2 rfl
            | int => exact n1 _ _ _ _ rfl rfl
        · subst e1; subst e2
          cases hx with
          | bad => exact hb' rfl
          | str => cases hy with
            | bad => exact hb2 rfl
            | str => exact n2 _ _ rfl rfl
        · subst e1; cases hx; exact hb' rfl
        · subst e1; cases hx; exact hb' rfl
    split at h
    · obtain ⟨b, hb, rfl⟩ := Option.map_eq_some_iff.1 h
      obtain ⟨h1, h2, h3, _⟩ := main b hb
      exact ⟨.bool b, by rw [Sem.run_bind, h2, Result.andThen_ok, h3]; simp [h1], .bool b⟩
    · obtain ⟨b, hb, rfl⟩ := Option.map_eq_some_iff.1 h
      obtain ⟨h1, h2, _, h3⟩ := main b hb
      exact ⟨.bool (!b), by rw [Sem.run_bind, h2, Result.andThen_ok, h3]; simp [h1], .bool _⟩
    · cases h

theorem unV_sound {op : UnOp} {x a : AV} {v : Value} (hx : VR γ x v) (h : unV op x = some a) : ∃ r, (Op.unary op v).run P w = .ok r w ∧ VR γ a r := by
  unfold unV at h
  split at h
  · have := hx.int_inv; subst this; cases h; exact ⟨_, rfl, .int _ _⟩
  · have := hx.bool_inv; subst this; cases h; exact ⟨_, rfl, .bool _⟩
  · have := hx.int_inv; subst this
    obtain ⟨n, hn, rfl⟩ := Option.map_eq_some_iff.1 h
    exact ⟨_, bitsOp_run hn, .int _ _⟩
  · cases h

end
end Go.AM

/-
  THE ABSTRACT MACHINE, eleventh text: every operation without an effect is sound.
-/
namespace Go.AM
section
variable {C : Ctx} {P : Program} {γ : Gh} {H : Heap} {w : World}

theorem run_v {s : Sem Value} {u : Value} {w' : World} (h : s.run P w = .ok u w') : (do pure (.value (← s)) : Sem Next).run P w = .ok (.value u) w' := by simp [h]

theorem nsound_v {γ : Gh} {o : Option AV} {r : NR} {s : Sem Value} (h : nv o = some r) (hs : ∀ a, o = some a → ∃ v, s.run P w = .ok v w ∧ VR γ a v) : NSound P γ w r (do pure (.value (← s))) :=
  nsound_nv h fun a ha => let ⟨v, h1, h2⟩ := hs a ha; ⟨v, run_v h1, h2⟩

set_option maxHeartbeats 2000000 in
theorem nop_sound (hC : CtxR C P) (hg : GR C γ) (hH : HR γ H w) {ρ : Operand → AV} {σ : Operand → Value} (hρ : ∀ x, VR γ (ρ x) (σ x)) {o : Oper} {mu : Bool} {r : NR} (h : nop C mu ρ o.op H = some r) :
    NSound P γ w r (execOp σ o) := by
  unfold nop at h
  split at h
  · rename_i x he; cases h; simp only [execOp, he]; exact ⟨_, rfl, hρ x⟩
  · rename_i x he; cases h; simp only [execOp, he]; exact ⟨_, rfl, hρ x⟩
  · rename_i c a b he
    simp only [execOp, he]
    split at h
    · rename_i t hc
      cases h
      have e := hρ c
      rw [hc] at e
      rw [e.bool_inv]
      cases t with
      | true => exact ⟨_, rfl, hρ a⟩
      | false => exact ⟨_, rfl, hρ b⟩
    · cases h
  · rename_i t he
    obtain ⟨i, hi, h⟩ := Option.bind_eq_some_iff.1 h
    split at h
    · rename_i hs
      cases h
      exact alloc_sound hC hi hs fun w => by simp only [execOp, he]; simp
    · cases h
  · rename_i t x he
    split at h
    · rename_i hs
      cases h
      exact box_sound (hρ x) hs fun w => by simp only [execOp, he, Sem.run_bind]; rfl
    · cases h
  · rename_i t ps he
    simp only [execOp, he]
    exact nsound_v h fun a ha => buildA_sound hC hρ ha
  · rename_i t n ps he
    exact buildSliceA_sound hC hg hρ h fun w => by simp only [execOp, he]; simp
  · rename_i t a he
    simp only [execOp, he]
    exact nsound_v h fun b hb => loadA_sound hC hH (hρ a) hb
  · rename_i x he
    simp only [execOp, he]
    have hx := hρ x
    split at h
    · rename_i b o e
      cases h
      rw [e] at hx
      generalize σ x = v at hx
      cases hx with
      | ptr o hr => exact ⟨_, rfl, .ptr o hr⟩
    · rename_i cs o e
      cases h
      rw [e] at hx
      generalize σ x = v at hx
      cases hx with
      | vptr o c h1 h2 h3 => exact ⟨_, rfl, .vptr o c h1 h2 h3⟩
    · rename_i f a b e
      cases h
      rw [e] at hx
      generalize σ x = v at hx
      cases hx with
      | func hf la lb ha hb => cases hf; exact ⟨_, rfl, .func (.func f) la lb ha hb⟩
    · cases h
  · rename_i op t x y _ he
    simp only [execOp, he]
    exact nsound_v h fun a ha => binV_sound hC (hρ x) (hρ y) ha
  · rename_i op t x he
    simp only [execOp, he]
    exact nsound_v h fun a ha => unV_sound (hρ x) ha
  · rename_i s d x he
    simp only [execOp, he]
    exact nsound_v h fun a ha => convA_sound hC hH (hρ x) ha
  · rename_i t x he
    simp only [execOp, he]
    obtain ⟨i, hi, h⟩ := Option.bind_eq_some_iff.1 h
    split at h
    · cases h
    · rename_i hif
      cases h
      obtain ⟨d, hd, hn⟩ := not_iface (hC.ti t i hi) (by simpa using hif)
      refine ⟨_, run_v (u := .iface t (σ x)) ?_, .iface t (hρ x)⟩
      simp only [Instr.makeInterface, Sem.run_bind, run_under hd, Result.andThen_ok]
      cases d with
      | interface ms => exact absurd rfl (hn ms)
      | _ => rfl
  · rename_i f a b he
    simp only [execOp, he]
    cases h
    have h1 := list_one hρ a
    have h2 := list_one hρ b
    exact ⟨_, rfl, .func (.func f) (by simp) (by simp) (fun i x v hx hv => h1.2 i x v hx (by simpa using hv)) (fun i x v hx hv => h2.2 i x v hx (by simpa using hv))⟩
  · rename_i t he
    cases h
    exact newObj_sound (f := fun b => .map (some b)) (x := .map []) (o := .map #[] 0) (g := fun r => .map (some r)) (fun w => by simp only [execOp, he]; rfl) (fun γ' _ => ⟨#[], 0, rfl, rfl, fun i e e' he => by simp at he⟩) (fun _ _ _ h => by cases h) (fun γ' b r hr => .map hr) w
  · rename_i t l c he
    exact makeSliceA_sound hC hg (hρ l) (hρ c) h fun w => by simp only [execOp, he]; simp
  · rename_i t x lo hi mx he
    exact sliceA_sound hC hg hH (hρ x) (VRo.map hρ lo) (VRo.map hρ hi) (VRo.map hρ mx) h _ fun w => by simp only [execOp, he]; simp
  · rename_i t x f he
    simp only [execOp, he]
    exact nsound_v h fun a ha => fieldAddrA_sound hC (hρ x) ha
  · rename_i t x f he
    simp only [execOp, he]
    exact nsound_v h fun a ha => fieldA_sound hC (hρ x) ha
  · rename_i t x i he
    simp only [execOp, he]
    exact nsound_v h fun a ha => indexAddrA_sound hC hg (hρ x) (hρ i) ha
  · rename_i t x i he
    simp only [execOp, he]
    exact nsound_v h fun a ha => indexA_sound hC (hρ x) (hρ i) ha
  · rename_i t m k ok he
    simp only [execOp, he]
    exact nsound_v h fun a ha => lookupA_sound hC hH (hρ m) (hρ k) ha
  · rename_i x xt a ok he
    simp only [execOp, he]
    exact nsound_v h fun b hb => typeAssertA_sound hC (hρ x) hb
  · rename_i x i he
    simp only [execOp, he]
    split at h
    · rename_i vs e
      refine nsound_v h fun a ha => ?_
      have hx := hρ x
      rw [e] at hx
      obtain ⟨us, hu, hr⟩ := hx.tuple_inv
      rw [hu]
      obtain ⟨v, h1, h2⟩ := hr.get ha
      have h1' : us[i]? = some v := by simpa using h1
      exact ⟨v, by simp [Instr.extract, h1'], h2⟩
    · cases h
  · rename_i t x he
    obtain ⟨i, hi, h⟩ := Option.bind_eq_some_iff.1 h
    split at h
    · rename_i hs
      split at h
      · rename_i s e
        cases h
        have hx := hρ x
        rw [e] at hx
        obtain ⟨b, hb, hbs⟩ := hx.str_inv
        have hK : P.underlying t = some .string := by
          have hk := (hC.ti t i hi).k
          cases hik : i.k <;> simp [TI.isStr, hik] at hs
          rw [hik] at hk; exact hk
        refine newObj_sound (f := fun b => .iter b) (x := .siter s 0) (o := .stringIter b 0) (g := fun r => .pointer (some ⟨r, 0, none⟩)) (fun w => ?_) (fun γ' _ => ⟨b, rfl, hbs⟩) (fun _ _ _ h => by cases h) (fun γ' b r hr => .iter hr) w
        simp only [execOp, he, hb]
        simp [Instr.range, run_under hK, run_newObj]
      · cases h
    · cases h
  · rename_i _ args ts he
    split at h
    · rename_i x t tl ea et
      have e1 : args = #[x] := Array.toList_inj.1 (by simpa using ea)
      have e2 : ts = (t :: tl).toArray := Array.toList_inj.1 (by simpa using et)
      subst e1; subst e2
      simp only [execOp, he]
      refine nsound_nv h fun a ha => ?_
      obtain ⟨u, h1, h2⟩ := lenA_sound (ty := o.type) hC hH (hρ x) ha tl
      exact ⟨u, by simp [resolve, invoke, builtin, h1], h2⟩
    · cases h
  · rename_i _ args ts he
    split at h
    · rename_i x y ea
      have e1 : args = #[x, y] := Array.toList_inj.1 (by simpa using ea)
      subst e1
      simp only [execOp, he]
      refine nsound_nv h fun a ha => ?_
      have hx := hρ x
      have hy := hρ y
      unfold min2A at ha
      split at ha
      · rename_i k a k' b e1 e2
        rw [e1] at hx; rw [e2] at hy
        cases ha
        exact ⟨.int k (if b < a then b else a), by simp [resolve, invoke, builtin, hx.int_inv, hy.int_inv, run_min_int2], .int _ _⟩
      · cases ha
    · cases h
  · rename_i _ args ts he
    split at h
    · rename_i x y ea
      have e1 : args = #[x, y] := Array.toList_inj.1 (by simpa using ea)
      subst e1
      simp only [execOp, he]
      refine nsound_nv h fun a ha => ?_
      have hx := hρ x
      have hy := hρ y
      unfold max2A at ha
      split at ha
      · rename_i k a k' b e1 e2
        rw [e1] at hx; rw [e2] at hy
        cases ha
        exact ⟨.int k (if a < b then b else a), by simp [resolve, invoke, builtin, hx.int_inv, hy.int_inv, run_max_int2], .int _ _⟩
      · cases ha
    · cases h
  · cases h

end
end Go.AM
