/- A part of the proof: lemmas, no statement of the seat is proved in this file. -/
import Derived.ChangeKeysEq
import Derived.Laws.Cells
import Derived.Laws.CopyRow
import Derived.Laws.Entries
import Derived.Laws.StructEq
import Derived.MapKept
import Derived.RangeFuncLeaves
import GoSem.Dispatch
set_option autoImplicit false
set_option maxRecDepth 100000

/- The values, blocks, instructions and the evaluator of an abstract, deterministic reading of Go code: no program in sight. No statement is proved here. -/
namespace Go.Abs

/-- Abstract values. -/
inductive AV where
  | bool (b : Bool)
  | int (k : IntKind) (n : Int)
  | str (s : ByteArray)
  | frz (es : List AV) (clip : Bool)
  | own (id off len : Nat) (clip : Bool)
  | nilp
  | ptr (id i off : Nat)
  | fp (es : List AV) (i off : Nat)
  | map (id : Nat)
  | nilm
  | func (fn : Fn) (first captured : List AV)
  | yld (l : Nat)
  | nilf
  | iface (t : Nat) (v : AV)
  | nili
  | agg (cs : List AV)
  | tuple (vs : List AV)
  deriving Inhabited

mutual
def AV.beq : AV → AV → Bool
  | .bool a, .bool b => a == b
  | .int k a, .int j b => decide (k = j) && decide (a = b)
  | .str a, .str b => decide (a = b)
  | .frz a c, .frz b d => AV.beqs a b && (c == d)
  | .own a b c d, .own a' b' c' d' => decide (a = a') && decide (b = b') && decide (c = c') && (d == d')
  | .nilp, .nilp => true
  | .ptr a b c, .ptr a' b' c' => decide (a = a') && decide (b = b') && decide (c = c')
  | .fp a b c, .fp a' b' c' => AV.beqs a a' && decide (b = b') && decide (c = c')
  | .map a, .map b => decide (a = b)
  | .nilm, .nilm => true
  | .func f a b, .func g c d => decide (f = g) && AV.beqs a c && AV.beqs b d
  | .yld a, .yld b => decide (a = b)
  | .nilf, .nilf => true
  | .iface t a, .iface u b => decide (t = u) && AV.beq a b
  | .nili, .nili => true
  | .agg a, .agg b => AV.beqs a b
  | .tuple a, .tuple b => AV.beqs a b
  | _, _ => false
def AV.beqs : List AV → List AV → Bool
  | [], [] => true
  | a :: x, b :: y => AV.beq a b && AV.beqs x y
  | _, _ => false
end

/-- The cells that a value takes in memory. -/
def AV.cells : AV → List AV
  | .agg cs => cs
  | v => [v]

/-- No aggregate, no tuple: the value of one cell. -/
def AV.isCell : AV → Bool
  | .agg _ | .tuple _ => false
  | _ => true

/-- What a loop over a function has pending. -/
inductive Pend where
  | ret | exit (id : Nat) | goto (l : Nat)
  deriving DecidableEq, Inhabited

/-- Blocks of the memory that the code under view made itself. -/
inductive Blk where
  | dead
  | cells (esz : Nat) (es : List AV)
  | map (es : List (AV × AV))
  | siter (s : ByteArray) (pos : Nat)
  | loop (ready : Bool) (pend : Option Pend)
  deriving Inhabited

def Blk.live : Blk → Bool
  | .dead => false
  | _ => true

mutual
def AV.under (n : Nat) : AV → Bool
  | .bool _ | .int _ _ | .str _ | .nilp | .nilm | .nilf | .nili | .frz _ _ | .fp _ _ _ => true
  | .own id _ _ _ | .ptr id _ _ | .map id | .yld id => decide (id < n)
  | .func _ a b => AV.unders n a && AV.unders n b
  | .iface _ v => AV.under n v
  | .agg cs | .tuple cs => AV.unders n cs
def AV.unders (n : Nat) : List AV → Bool
  | [] => true
  | a :: x => AV.under n a && AV.unders n x
end

mutual
/-- The blocks that a value names are of a kind. -/
def AV.named (p : Nat → Bool) : AV → Bool
  | .bool _ | .int _ _ | .str _ | .nilp | .nilm | .nilf | .nili | .frz _ _ | .fp _ _ _ => true
  | .own id _ _ _ | .ptr id _ _ | .map id | .yld id => p id
  | .func _ a b => AV.nameds p a && AV.nameds p b
  | .iface _ v => AV.named p v
  | .agg cs | .tuple cs => AV.nameds p cs
def AV.nameds (p : Nat → Bool) : List AV → Bool
  | [] => true
  | a :: x => AV.named p a && AV.nameds p x
end

/-- No reference to a block at all (what stands within frozen memory). -/
def AV.pure (v : AV) : Bool := v.under 0

def Blk.under (n : Nat) : Blk → Bool
  | .cells _ es => AV.unders n es
  | .map es => es.all fun e => e.1.under n && e.2.under n
  | _ => true

def Blk.named (p : Nat → Bool) : Blk → Bool
  | .cells _ es => AV.nameds p es
  | .map es => es.all fun e => e.1.named p && e.2.named p
  | _ => true

def pairsEq : List (AV × AV) → List (AV × AV) → Bool
  | [], [] => true
  | a :: x, b :: y => AV.beq a.1 b.1 && AV.beq a.2 b.2 && pairsEq x y
  | _, _ => false

def Blk.beq : Blk → Blk → Bool
  | .dead, .dead => true
  | .cells n a, .cells m b => decide (n = m) && AV.beqs a b
  | .map a, .map b => pairsEq a b
  | .siter s a, .siter t b => decide (s = t) && decide (a = b)
  | .loop a p, .loop b q => (a == b) && decide (p = q)
  | _, _ => false

abbrev Heap := List Blk

/-- The blocks at which two heaps differ, as the second has them. -/
def diff : Nat → Heap → Heap → List (Nat × Blk)
  | i, a :: A, b :: B => if a.beq b then diff (i + 1) A B else (i, b) :: diff (i + 1) A B
  | i, [], b :: B => (i, b) :: diff (i + 1) [] B
  | _, _, [] => []

def hset (A : Heap) (i : Nat) (b : Blk) : Heap := if i < A.length then A.set i b else A ++ List.replicate (i - A.length) .dead ++ [b]

def putAll (A : Heap) : List (Nat × Blk) → Heap
  | [] => A
  | (i, b) :: r => putAll (hset A i b) r

/-- What was there before names nothing that is given up. -/
def trunc (A A' : Heap) : Option Heap :=
  if (diff 0 A (A'.take A.length)).all (fun d => d.2.under A.length) && decide (A.length ≤ A'.length) then some (A'.take A.length) else none

/-! ### Instructions, the types resolved -/

inductive Arg where
  | reg (t : Nat)
  | const (v : AV)
  | glob (g : Nat)
  deriving Inhabited

/-- Kinds of cells that are compared by what they are. -/
inductive KC where
  | int | bool | str
  deriving DecidableEq, Inhabited

inductive EqK where
  | one (k : KC)
  | many (ks : List KC)
  deriving DecidableEq, Inhabited

/-- Kinds of types that have a nil. -/
inductive NK where
  | ptr | slice | map | func | iface
  deriving DecidableEq, Inhabited

/-- What 'len' is asked of. -/
inductive LK where
  | str | slice | map
  deriving DecidableEq, Inhabited

inductive IOp where
  | mov (x : Arg)
  | pick (c a b : Arg)
  | alloc (zero : AV)
  | box (x : Arg)
  | build (zero : List AV) (parts : List (Nat × Nat × Arg))
  | buildSlice (esz : Nat) (zero : AV) (len : Nat) (parts : List (Nat × Arg))
  | load (agg : Bool) (n : Nat) (a : Arg)
  | store (n : Nat) (a x : Arg)
  | nilCheck (x : Arg)
  | bin (op : BinOp) (x y : Arg)
  | eqv (neg : Bool) (k : EqK) (x y : Arg)
  | isNil (k : NK) (neg : Bool) (x : Arg)
  | un (op : UnOp) (x : Arg)
  | conv (k : IntKind) (x : Arg)
  | convStr (x : Arg)
  | mkIface (t : Nat) (x : Arg)
  | mkFunc (fn : Fn) (first captured : List Arg)
  | mkMap
  | mkSlice (esz bytes : Nat) (zero : AV) (len cap : Arg)
  | slice (esz : Nat) (x : Arg) (lo hi max : Option Arg)
  | sliceStr (x : Arg) (lo hi : Option Arg)
  | addOff (a : Arg) (off : Nat)
  | part (agg : Bool) (off n : Nat) (x : Arg)
  | idxS (esz : Nat) (x i : Arg)
  | idxA (len esz : Nat) (x i : Arg)
  | idxV (agg : Bool) (len esz : Nat) (x i : Arg)
  | idxStr (x i : Arg)
  | lookup (ek : EqK) (zero : AV) (ok : Bool) (m k : Arg)
  | mapSet (ek : EqK) (m k v : Arg)
  | rangeStr (x : Arg)
  | nextStr (it : Arg)
  | tassert (t : Nat) (zero : AV) (ok : Bool) (x : Arg)
  | extract (x : Arg) (i : Nat)
  | append (esz bytes : Nat) (x y : Arg)
  | appendZ (esz bytes : Nat) (zero : AV) (x n : Arg)
  | len (k : LK) (x : Arg)
  | lenConst (n : Nat)
  | capClip (x : Arg)
  | min2 (x y : Arg)
  | max2 (x y : Arg)
  | copy (esz : Nat) (x y : Arg)
  | clear (esz : Nat) (zero : AV) (x : Arg)
  | clearMap (x : Arg)
  | call (f : Arg) (args : List Arg)
  | invoke (x : Arg) (m : String) (args : List Arg)
  | panic (x : Arg)
  deriving Inhabited

structure IOper where
  dst : Option Nat
  guard : Option (Option Nat × Bool)
  op : IOp
  deriving Inhabited

inductive ICode where
  | skip
  | ops (l : List IOper)
  | draw (l : List (List (IOper × List Nat)))
  | seq (a b : ICode)
  | cond (c : Arg) (thn els : ICode)
  | block (id : Nat) (body : ICode)
  | loop (body : ICode)
  | rangeF (f : Arg) (params : List Nat) (assign body : ICode)
  | exit (id : Nat)
  | ret
  deriving Inhabited

inductive IRes where
  | tmp (t : Nat)
  | cell (a : Nat) (agg : Bool) (n : Nat)
  deriving Inhabited

structure IFun where
  ntmps : Nat
  results : List IRes
  body : ICode
  deriving Inhabited

/-! ### The evaluator -/

inductive CRes where
  | ret (v : AV)
  | panic (v : AV)
  deriving Inhabited

inductive AExit where
  | normal | exit (id : Nat) | ret | panic (v : AV)
  deriving Inhabited

abbrev Regs := List AV

/-- What is known of a round of a loop over a function that runs. -/
structure LoopInfo where
  id : Nat
  regs : Regs
  params : List Nat
  assign : ICode
  body : ICode
  deriving Inhabited

structure Env where
  fns : FuncId → Option IFun
  intr : FuncId → Option (List AV → Heap → Option (AV × Heap))
  keep : FuncId → Bool
  glob : Nat → Option AV
  mtab : Nat → String → Option (FuncId × Bool)
  /-- Functions that may write: parts of regions that draw their order and call one are done with care. -/
  noisy : FuncId → Bool
  /-- Functions of plain values: they are called with no memory at all. -/
  apart : FuncId → Bool
  /-- Calls whose answers are told, with no walk. -/
  easy : FuncId → List AV → Option AV := fun _ _ => none

def undefA : AV := .tuple []

def rget (R : Regs) (t : Nat) : AV := R.getD t undefA
def rset (R : Regs) (t : Nat) (v : AV) : Regs := R.set t v
def rput (R : Regs) (d : Option Nat) (v : AV) : Regs := match d with | some t => rset R t v | none => R

section
variable (E : Env)

def arg (R : Regs) : Arg → AV
  | .reg t => rget R t
  | .const v => v
  | .glob g => (E.glob g).getD undefA

def args (R : Regs) (l : List Arg) : List AV := l.map (arg E R)

/-- Part of some cells. -/
def cut (agg : Bool) (n off : Nat) (cs : List AV) : Option AV :=
  if agg then (if off + n ≤ cs.length then some (.agg ((cs.drop off).take n)) else none) else cs[off]?

def hget (A : Heap) (id : Nat) : Blk := A.getD id .dead

/-- The element that a pointer is into, and the place in it. -/
def spotOf (A : Heap) : AV → Option (AV × Nat)
  | .ptr id i off => match hget A id with
    | .cells _ es => es[i]?.map fun e => (e, off)
    | _ => none
  | .fp es i off => es[i]?.map fun e => (e, off)
  | _ => none

def ld (A : Heap) (agg : Bool) (n : Nat) (p : AV) : Option AV :=
  match spotOf A p with
  | some (e, off) => cut agg n off e.cells
  | none => none

/-- An element with other cells. -/
def AV.remake (e : AV) (cs : List AV) : AV :=
  match e with
  | .agg _ => .agg cs
  | _ => cs.headD undefA

def overlay (cs : List AV) (off : Nat) (x : List AV) : List AV := cs.take off ++ x ++ cs.drop (off + x.length)

def st (A : Heap) (n : Nat) (p x : AV) : Option (Nat × Blk) :=
  match p with
  | .ptr id i off => match hget A id with
    | .cells esz es => match es[i]? with
      | some e => if 0 < n ∧ x.cells.length = n ∧ off + n ≤ e.cells.length ∧ x.cells.all AV.isCell then some (id, .cells esz (es.set i (e.remake (overlay e.cells off x.cells)))) else none
      | none => none
    | _ => none
  | _ => none

def fillA : List AV → List (Nat × Nat × AV) → Option (List AV)
  | cs, [] => some cs
  | cs, (off, size, x) :: r => if x.cells.length = size ∧ off + size ≤ cs.length ∧ x.cells.all AV.isCell then fillA (overlay cs off x.cells) r else none

def fillS (esz : Nat) : List AV → List (Nat × AV) → Option (List AV)
  | es, [] => some es
  | es, (i, x) :: r => if x.cells.length = esz ∧ i < es.length ∧ x.cells.all AV.isCell then fillS esz (es.set i x) r else none

/-- The elements of a slice. -/
def elems (A : Heap) : AV → Option (List AV)
  | .frz es _ => some es
  | .own id off len _ => match hget A id with
    | .cells _ es => if off + len ≤ es.length then some ((es.drop off).take len) else none
    | _ => none
  | _ => none

/-- The elements of a slice are as wide as is said. -/
def wide (A : Heap) (esz : Nat) : AV → Bool
  | .own id _ _ _ => match hget A id with | .cells e _ => decide (e = esz) | _ => false
  | .frz (e :: _) _ => decide (e.cells.length = esz)
  | _ => true

def basicEq : KC → AV → AV → Option Bool
  | .int, .int k a, .int j b => if k = j then some (a == b) else none
  | .bool, .bool a, .bool b => some (a == b)
  | .str, .str a, .str b => some (a.toList == b.toList)
  | _, _, _ => none

def flatEq : List KC → List AV → List AV → Option Bool
  | [], [], [] => some true
  | k :: ks, a :: x, b :: y => match basicEq k a b, flatEq ks x y with
    | some p, some q => some (p && q)
    | _, _ => none
  | _, _, _ => none

def eqBy : EqK → AV → AV → Option Bool
  | .one k, a, b => basicEq k a b
  | .many ks, .agg a, .agg b => flatEq ks a b
  | _, _, _ => none

def bin (op : BinOp) (x y : AV) : Option AV :=
  match op, x, y with
  | .shl, .int k a, .int _ b => if 0 ≤ b then some (.int k (k.wrap (a * 2 ^ (min b.toNat k.bits)))) else none
  | .shr, .int k a, .int _ b => if 0 ≤ b then some (.int k (a.fdiv (2 ^ (min b.toNat k.bits)))) else none
  | .add, .int k a, .int j b => if k = j then some (.int k (k.wrap (a + b))) else none
  | .sub, .int k a, .int j b => if k = j then some (.int k (k.wrap (a - b))) else none
  | .mul, .int k a, .int j b => if k = j then some (.int k (k.wrap (a * b))) else none
  | .quo, .int k a, .int j b => if k = j ∧ b ≠ 0 then some (.int k (k.wrap (a.tdiv b))) else none
  | .rem, .int k a, .int j b => if k = j ∧ b ≠ 0 then some (.int k (a.tmod b)) else none
  | .and, .int k a, .int j b => if k = j then some (.int k (k.wrap (BitVec.ofInt k.bits a &&& BitVec.ofInt k.bits b).toNat)) else none
  | .or, .int k a, .int j b => if k = j then some (.int k (k.wrap (BitVec.ofInt k.bits a ||| BitVec.ofInt k.bits b).toNat)) else none
  | .xor, .int k a, .int j b => if k = j then some (.int k (k.wrap (BitVec.ofInt k.bits a ^^^ BitVec.ofInt k.bits b).toNat)) else none
  | .andNot, .int k a, .int j b => if k = j then some (.int k (k.wrap (BitVec.ofInt k.bits a &&& ~~~(BitVec.ofInt k.bits b)).toNat)) else none
  | .lss, .int k a, .int j b => if k = j then some (.bool (decide (a < b))) else none
  | .leq, .int k a, .int j b => if k = j then some (.bool (decide (a ≤ b))) else none
  | .gtr, .int k a, .int j b => if k = j then some (.bool (decide (a > b))) else none
  | .geq, .int k a, .int j b => if k = j then some (.bool (decide (a ≥ b))) else none
  | .add, .str a, .str b => if ((a.size + b.size : Nat) : Int) ≤ 9223372036854775807 then some (.str (a ++ b)) else none
  | .lss, .str a, .str b => some (.bool (Op.bytesLess a.toList b.toList))
  | .leq, .str a, .str b => some (.bool (Op.bytesLess a.toList b.toList || (a.toList == b.toList)))
  | .gtr, .str a, .str b => some (.bool (!(Op.bytesLess a.toList b.toList || (a.toList == b.toList))))
  | .geq, .str a, .str b => some (.bool (!(Op.bytesLess a.toList b.toList)))
  | _, _, _ => none

def isNilA : NK → AV → Option Bool
  | .ptr, .nilp => some true
  | .ptr, .ptr _ _ _ | .ptr, .fp _ _ _ => some false
  | .map, .nilm => some true
  | .map, .map _ => some false
  | .func, .nilf => some true
  | .func, .func _ _ _ | .func, .yld _ => some false
  | .iface, .nili => some true
  | .iface, .iface _ _ => some false
  | .slice, .frz (_ :: _) _ => some false
  | .slice, .own _ _ (_ + 1) _ => some false
  | _, _ => none

def un (op : UnOp) (x : AV) : Option AV :=
  match op, x with
  | .neg, .int k n => some (.int k (k.wrap (0 - n)))
  | .xor, .int k n => some (.int k (k.wrap (BitVec.ofInt k.bits (if k.signed then -1 else k.max) ^^^ BitVec.ofInt k.bits n).toNat))
  | .not, .bool b => some (.bool !b)
  | _, _ => none

def bound (x : Option AV) (d : Nat) (most : Nat) : Option Nat :=
  match x with
  | none => some d
  | some (.int _ i) => if 0 ≤ i ∧ i ≤ most then some i.toNat else none
  | _ => none

/-- 'x[lo:hi]', 'x[lo:hi:max]'; hi at most the length, max hi alone. -/
def sliceA (x : AV) (lo hi max : Option AV) : Option AV :=
  match x with
  | .frz es clip =>
    match bound hi es.length es.length with
    | some h => match bound lo 0 h with
      | some l => match max with
        | none => some (.frz ((es.take h).drop l) (clip && decide (h = es.length)))
        | some (.int _ m) => if m = h ∧ hi.isSome then some (.frz ((es.take h).drop l) true) else none
        | some _ => none
      | none => none
    | none => none
  | .own id off len clip =>
    match bound hi len len with
    | some h => match bound lo 0 h with
      | some l => match max with
        | none => some (.own id (off + l) (h - l) (clip && decide (h = len)))
        | some (.int _ m) => if m = h ∧ hi.isSome then some (.own id (off + l) (h - l) true) else none
        | some _ => none
      | none => none
    | none => none
  | _ => none

def sliceStrA (x : AV) (lo hi : Option AV) : Option AV :=
  match x with
  | .str s => match bound hi s.size s.size with
    | some h => match bound lo 0 h with
      | some l => some (.str (s.extract l h))
      | none => none
    | none => none
  | _ => none

def addOffA : AV → Nat → Option AV
  | .ptr id i off, k => some (.ptr id i (off + k))
  | .fp es i off, k => some (.fp es i (off + k))
  | _, _ => none

def partA (agg : Bool) (off n : Nat) : AV → Option AV
  | .agg cs => cut agg n off cs
  | _ => none

def idxSA (A : Heap) (esz : Nat) (x i : AV) : Option AV :=
  match x, i with
  | .frz es _, .int _ j => if 0 ≤ j ∧ j < es.length ∧ ((es.getD j.toNat undefA).cells.length = esz) then some (.fp es j.toNat 0) else none
  | .own id off len _, .int _ j => match hget A id with
    | .cells e _ => if 0 ≤ j ∧ j < len ∧ e = esz then some (.ptr id (off + j.toNat) 0) else none
    | _ => none
  | _, _ => none

def idxAA (len esz : Nat) (x i : AV) : Option AV :=
  match i with
  | .int _ j => if 0 ≤ j ∧ j < len then addOffA x (j.toNat * esz) else none
  | _ => none

def idxVA (agg : Bool) (len esz : Nat) (x i : AV) : Option AV :=
  match x, i with
  | .agg cs, .int _ j => if 0 ≤ j ∧ j < len then cut agg esz (j.toNat * esz) cs else none
  | _, _ => none

def idxStrA (x i : AV) : Option AV :=
  match x, i with
  | .str s, .int _ j => if 0 ≤ j then (s[j.toNat]?).map fun b => .int .u8 b.toNat else none
  | _, _ => none

def findA (ek : EqK) (k : AV) : List (AV × AV) → Nat → Option (Option (Nat × AV))
  | [], _ => some none
  | e :: es, i => match eqBy ek k e.1 with
    | some true => some (some (i, e.2))
    | some false => findA ek k es (i + 1)
    | none => none

def mapEntries (A : Heap) (m : AV) : Option (List (AV × AV)) :=
  match m with
  | .nilm => some []
  | .map id => match hget A id with | .map es => some es | _ => none
  | _ => none

def okKey : EqK → AV → Bool
  | ek, k => (eqBy ek k k).isSome

def lookupA (A : Heap) (ek : EqK) (zero : AV) (ok : Bool) (m k : AV) : Option AV :=
  match mapEntries A m with
  | none => none
  | some es => if okKey ek k then match findA ek k es 0 with
    | some (some (_, v)) => some (if ok then .tuple [v, .bool true] else v)
    | some none => some (if ok then .tuple [zero, .bool false] else zero)
    | none => none
    else none

def mapSetA (A : Heap) (ek : EqK) (m k v : AV) : Option (Nat × Blk) :=
  match m with
  | .map id => match hget A id with
    | .map es => if okKey ek k then match findA ek k es 0 with
      | some (some (i, _)) => some (id, .map (es.set i (k, v)))
      | some none => some (id, .map (es ++ [(k, v)]))
      | none => none
      else none
    | _ => none
  | _ => none

def tassertA (t : Nat) (zero : AV) (ok : Bool) (x : AV) : Option AV :=
  match x with
  | .nili => if ok then some (.tuple [zero, .bool false]) else none
  | .iface u v => if u = t then some (if ok then .tuple [v, .bool true] else v) else if ok then some (.tuple [zero, .bool false]) else none
  | _ => none

def lenA (A : Heap) : LK → AV → Option AV
  | .str, .str s => some (.int .i64 s.size)
  | .slice, .frz es _ => some (.int .i64 es.length)
  | .slice, .own _ _ len _ => some (.int .i64 len)
  | .map, .nilm => some (.int .i64 0)
  | .map, .map id => match hget A id with | .map es => some (.int .i64 es.length) | _ => none
  | _, _ => none

/-- What an operation comes to: a value, blocks that are changed, a new block (it has the number nid). -/
structure Out where
  v : AV
  wr : List (Nat × Blk)
  new : Option Blk
  deriving Inhabited

def just (v : AV) : Option Out := some ⟨v, [], none⟩
def val (v : Option AV) : Option Out := match v with | some v => just v | none => none
def maxBytes : Nat := 140737488355328

/-- 'append': the old memory is given up where it may be the new one's. -/
def appOut (nid esz : Nat) (x : AV) (old new : List AV) : Option Out :=
  match x with
  | .frz _ clip => if clip then some ⟨.own nid 0 (old.length + new.length) false, [], some (.cells esz (old ++ new))⟩ else none
  | .own id _ _ clip =>
    if clip then some ⟨.own nid 0 (old.length + new.length) false, [], some (.cells esz (old ++ new))⟩
    else some ⟨.own nid 0 (old.length + new.length) false, [(id, .dead)], some (.cells esz (old ++ new))⟩
  | _ => none

def appendL (A : Heap) (nid esz bytes : Nat) (x : AV) (new : List AV) : Option Out :=
  if new.isEmpty then (match x with | .frz _ _ | .own _ _ _ _ => just x | _ => none)
  else match elems A x with
  | none => none
  | some old =>
    if (old.length + new.length) * bytes ≤ maxBytes ∧ old.length + new.length ≤ 9223372036854775807 ∧ wide A esz x ∧ (old ++ new).all (fun e => decide (e.cells.length = esz)) then appOut nid esz x old new
    else none

def appendA (A : Heap) (nid esz bytes : Nat) (x y : AV) : Option Out :=
  match y with
  | .str _ => none
  | y => match elems A y with
    | some new => appendL A nid esz bytes x new
    | none => none

def appendZA (A : Heap) (nid esz bytes : Nat) (zero x n : AV) : Option Out :=
  match n with
  | .int _ l => if 0 ≤ l ∧ l * bytes ≤ maxBytes ∧ l ≤ 9223372036854775807 ∧ zero.cells.length = esz ∧ zero.cells.all AV.isCell then appendL A nid esz bytes x (List.replicate l.toNat zero) else none
  | _ => none

def minA : AV → AV → Option AV
  | .int k x, .int j y => if k = j then some (.int k (if y < x then y else x)) else none
  | _, _ => none
def maxA : AV → AV → Option AV
  | .int k x, .int j y => if k = j then some (.int k (if y > x then y else x)) else none
  | _, _ => none

def clearMapA (A : Heap) (x : AV) : Option Out :=
  match x with
  | .nilm => just (.tuple [])
  | .map id => match hget A id with | .map _ => some ⟨.tuple [], [(id, .map [])], none⟩ | _ => none
  | _ => none

def clearA (A : Heap) (esz : Nat) (zero : AV) (x : AV) : Option Out :=
  match x with
  | .frz [] _ | .own _ _ 0 _ => just (.tuple [])
  | .own id off len _ => match hget A id with
    | .cells e es => if e = esz ∧ 0 < len ∧ off + len ≤ es.length ∧ zero.cells.length = esz ∧ zero.cells.all AV.isCell then some ⟨.tuple [], [(id, .cells e (es.take off ++ (List.replicate len zero ++ es.drop (off + len))))], none⟩ else none
    | _ => none
  | _ => none

def mkSliceA (nid esz bytes : Nat) (zero : AV) (len cap : AV) : Option Out :=
  match len, cap with
  | .int _ l, .int _ c => if 0 ≤ l ∧ l ≤ c ∧ c * bytes ≤ maxBytes ∧ c ≤ 9223372036854775807 ∧ zero.cells.length = esz ∧ zero.cells.all AV.isCell then
      some ⟨.own nid 0 l.toNat (decide (l = c)), [], some (.cells esz (List.replicate c.toNat zero))⟩ else none
  | _, _ => none

/-- The number of a new block is given. Calls, panics and deferred calls are not here. -/
def evOp (R : Regs) (A : Heap) (nid : Nat) : IOp → Option Out
  | .mov x => just (arg E R x)
  | .pick c a b => match arg E R c with | .bool t => just (if t then arg E R a else arg E R b) | _ => none
  | .alloc z => if z.cells.all AV.isCell then some ⟨.ptr nid 0 0, [], some (.cells z.cells.length [z])⟩ else none
  | .box x => if (arg E R x).cells.all AV.isCell then some ⟨.ptr nid 0 0, [], some (.cells (arg E R x).cells.length [arg E R x])⟩ else none
  | .build z ps => val ((fillA z (ps.map fun p => (p.1, p.2.1, arg E R p.2.2))).map .agg)
  | .buildSlice esz z n ps => if n = 0 then just (.frz [] true) else
      match fillS esz (List.replicate n z) (ps.map fun p => (p.1, arg E R p.2)) with
      | some es => if z.cells.length = esz ∧ z.cells.all AV.isCell then some ⟨.own nid 0 n true, [], some (.cells esz es)⟩ else none
      | none => none
  | .load g n a => val (ld A g n (arg E R a))
  | .store n a x => match st A n (arg E R a) (arg E R x) with | some d => some ⟨undefA, [d], none⟩ | none => none
  | .nilCheck x => match arg E R x with
    | .ptr a b c => just (.ptr a b c)
    | .fp a b c => just (.fp a b c)
    | .func f a b => match f with | .func _ => just (.func f a b) | _ => none
    | .yld l => just (.yld l)
    | .iface t v => just (.iface t v)
    | .map m => just (.map m)
    | _ => none
  | .bin op x y => val (bin op (arg E R x) (arg E R y))
  | .eqv neg k x y => val ((eqBy k (arg E R x) (arg E R y)).map fun b => .bool (b != neg))
  | .isNil k neg x => val ((isNilA k (arg E R x)).map fun b => .bool (b != neg))
  | .un op x => val (un op (arg E R x))
  | .conv k x => match arg E R x with | .int _ n => just (.int k (k.wrap n)) | _ => none
  | .convStr x => match arg E R x with | .str s => just (.str s) | _ => none
  | .mkIface t x => just (.iface t (arg E R x))
  | .mkFunc fn a b => just (.func fn (args E R a) (args E R b))
  | .mkMap => some ⟨.map nid, [], some (.map [])⟩
  | .mkSlice esz bytes z l c => mkSliceA nid esz bytes z (arg E R l) (arg E R c)
  | .slice esz x lo hi mx => if wide A esz (arg E R x) then val (sliceA (arg E R x) (lo.map (arg E R)) (hi.map (arg E R)) (mx.map (arg E R))) else none
  | .sliceStr x lo hi => val (sliceStrA (arg E R x) (lo.map (arg E R)) (hi.map (arg E R)))
  | .addOff a k => val (addOffA (arg E R a) k)
  | .part g off n x => val (partA g off n (arg E R x))
  | .idxS esz x i => val (idxSA A esz (arg E R x) (arg E R i))
  | .idxA len esz x i => val (idxAA len esz (arg E R x) (arg E R i))
  | .idxV g len esz x i => val (idxVA g len esz (arg E R x) (arg E R i))
  | .idxStr x i => val (idxStrA (arg E R x) (arg E R i))
  | .lookup ek z ok m k => val (lookupA A ek z ok (arg E R m) (arg E R k))
  | .mapSet ek m k v => match mapSetA A ek (arg E R m) (arg E R k) (arg E R v) with | some d => some ⟨undefA, [d], none⟩ | none => none
  | .rangeStr x => match arg E R x with | .str s => some ⟨.ptr nid 0 0, [], some (.siter s 0)⟩ | _ => none
  | .nextStr it => match arg E R it with
    | .ptr id 0 0 => match hget A id with
      | .siter s pos => if pos < s.size then
          some ⟨.tuple [.bool true, .int .i64 pos, .int .i32 (Utf8.decode s pos).1], [(id, .siter s (pos + (Utf8.decode s pos).2))], none⟩
        else just (.tuple [.bool false])
      | _ => none
    | _ => none
  | .tassert t z ok x => val (tassertA t z ok (arg E R x))
  | .extract x i => match arg E R x with | .tuple vs => val vs[i]? | _ => none
  | .append esz bytes x y => appendA A nid esz bytes (arg E R x) (arg E R y)
  | .appendZ esz bytes z x n => appendZA A nid esz bytes z (arg E R x) (arg E R n)
  | .len k x => val (lenA A k (arg E R x))
  | .lenConst n => just (.int .i64 n)
  | .capClip x => match arg E R x with | .frz es true => just (.int .i64 es.length) | .own _ _ len true => just (.int .i64 len) | _ => none
  | .min2 x y => val (minA (arg E R x) (arg E R y))
  | .max2 x y => val (maxA (arg E R x) (arg E R y))
  | .copy _ _ _ => none
  | .clear esz z x => clearA A esz z (arg E R x)
  | .clearMap x => clearMapA A (arg E R x)
  | .call _ _ | .invoke _ _ _ | .panic _ => none

def applyOut (A : Heap) (o : Out) : Heap := putAll A (o.wr ++ o.new.toList.map fun b => (A.length, b))

def guarded (R : Regs) : Option (Option Nat × Bool) → Bool
  | none => true
  | some (some t, want) => match rget R t with | .bool b => b == want | _ => false
  | some (none, _) => false

/-- Calls, of a value with arguments. -/
abbrev CallF := AV → List AV → Heap → Option (CRes × Heap)

/-- What is called: a function's value, a method behind an interface. -/
def callee (R : Regs) : IOp → Option (AV × List AV)
  | .call f l => some (arg E R f, args E R l)
  | .invoke x m l => match arg E R x with
    | .iface t v => match E.mtab t m with
      | some (f, _) => some (.func (.func f) [v] [], args E R l)
      | none => none
    | _ => none
  | _ => none

inductive OR where
  | next (R : Regs) (A : Heap)
  | panic (v : AV) (R : Regs) (A : Heap)
  deriving Inhabited

def evOps (call : CallF) : List IOper → Regs → Heap → Option OR
  | [], R, A => some (.next R A)
  | o :: rest, R, A =>
    if guarded R o.guard then
      match o.op with
      | .panic x => match arg E R x with | .iface t v => some (.panic (.iface t v) R A) | _ => none
      | .call f l => match call (arg E R f) (args E R l) A with
        | some (.ret v, A') => evOps call rest (rput R o.dst v) A'
        | some (.panic v, A') => some (.panic v R A')
        | none => none
      | .invoke x m l => match callee E R (.invoke x m l) with
        | some (f, l) => match call f l A with
          | some (.ret v, A') => evOps call rest (rput R o.dst v) A'
          | some (.panic v, A') => some (.panic v R A')
          | none => none
        | none => none
      | op => match evOp E R A A.length op with
        | some out => evOps call rest (rput R o.dst out.v) (applyOut A out)
        | none => none
    else evOps call rest (rput R o.dst undefA) A

/-- The memory that an operation looks at. -/
def foot (R : Regs) : IOp → Option (List Nat)
  | .load _ _ a => match arg E R a with | .ptr id _ _ => some [id] | _ => some []
  | .idxS _ x _ | .slice _ x _ _ _ => match arg E R x with | .own id _ _ _ => some [id] | _ => some []
  | .mov _ | .pick _ _ _ | .alloc _ | .box _ | .build _ _ | .buildSlice _ _ _ _ | .nilCheck _ | .bin _ _ _ | .eqv _ _ _ _ | .isNil _ _ _ | .un _ _ | .conv _ _ | .convStr _ | .mkIface _ _
  | .mkFunc _ _ _ | .mkMap | .mkSlice _ _ _ _ _ | .sliceStr _ _ _ | .addOff _ _ | .part _ _ _ _ | .idxA _ _ _ _ | .idxV _ _ _ _ _ | .idxStr _ _ | .tassert _ _ _ _
  | .extract _ _ | .lenConst _ | .capClip _ | .min2 _ _ | .max2 _ _ => some []
  | _ => none

/-- A heap with some blocks alone. -/
def only (A : Heap) : Option (List Nat) → Heap
  | none => A
  | some l => A.zipIdx.map fun (b, i) => if l.contains i then b else .dead

/-- Something that rewriting does not look into. -/
class Kont (α : Type) where
  run : α

/-- What one operation of a region that draws came to: its value, what it did, what it looked at. -/
structure Done where
  v : AV
  eff : List (Nat × Blk)
  [look : Kont Heap]

/-- The lists of some numbers, one after the other. -/
def pick {X : Type} (S : Nat → Bool) : Nat → List (List (Nat × X)) → List (Nat × X)
  | _, [] => []
  | i, W :: r => if S i then W ++ pick S (i + 1) r else pick S (i + 1) r

/-- One operation of a region that draws: at its own part of the memory. 'ds': what came before it in the text. -/
def drawOne (call : CallF) (A0 : Heap) (n0 : Nat) (R : Regs) (ds : List Done) (o : IOper) (pre : List Nat) : Option Done :=
  if guarded R o.guard then
    let B := only (putAll A0 (pick pre.contains 0 (ds.map Done.eff))) (foot E R o.op)
    let p : Nat → Bool := fun id => decide (id < n0) || pre.contains (id - n0)
    match callee E R o.op with
    | some (f, l) => match call f l B with
      | some (.ret v, A') => if B.length = A'.length ∧ v.named p ∧ (diff 0 B A').all (fun d => p d.1 && d.2.named p) then some (@Done.mk v (diff 0 B A') ⟨B⟩) else none
      | _ => none
    | none => match evOp E R B (n0 + ds.length) o.op with
      | some out => if out.wr.all (fun d => decide (d.1 < n0 + ds.length)) then some (@Done.mk out.v (out.wr ++ (out.new.toList.map fun b => (n0 + ds.length, b))) ⟨B⟩) else none
      | none => none
  else some (@Done.mk undefA [] ⟨[]⟩)

/-- The operations of a region that draws its order, in the text's order. -/
def evDraw (call : CallF) (A0 : Heap) (n0 : Nat) : List (IOper × List Nat) → Regs → List Done → Option (Regs × List Done)
  | [], R, ds => some (R, ds)
  | (o, pre) :: rest, R, ds =>
    match drawOne E call A0 n0 R ds o pre with
    | some d => evDraw call A0 n0 rest (rput R o.dst d.v) (ds ++ [d])
    | none => none

/-- Two of them that no edge orders: what the one does touches nothing that the other one looks at or does. -/
def drawOk (l : List (IOper × List Nat)) (ds : List Done) : Bool :=
  (l.zip ds).zipIdx.all fun q => (l.zip ds).zipIdx.all fun p =>
    q.2 == p.2 || q.1.1.2.contains p.2 || p.1.1.2.contains q.2 ||
      q.1.2.eff.all fun d => !(hget p.1.2.look.run d.1).live && p.1.2.eff.all fun d' => d'.1 != d.1

def evRegion (call : CallF) (l : List (IOper × List Nat)) (R : Regs) (A : Heap) : Option OR :=
  let A0 := A ++ List.replicate l.length .dead
  match evDraw E call A0 A.length l R [] with
  | some (R', ds) => if drawOk l ds then some (.next R' (putAll A0 (ds.map Done.eff).flatten)) else none
  | none => none

def sameHeap (A A' : Heap) : Bool := decide (A.length = A'.length) && (diff 0 A A').isEmpty

/-- Operations that leave the memory as it is, in the text's order. -/
def evQuiet (call : CallF) (A : Heap) : List (IOper × List Nat) → Regs → Option Regs
  | [], R => some R
  | (o, _) :: rest, R =>
    if guarded R o.guard then
      match callee E R o.op with
      | some (f, l) => match call f l A with
        | some (.ret v, A') => if sameHeap A A' then evQuiet call A rest (rput R o.dst v) else none
        | _ => none
      | none => match evOp E R A A.length o.op with
        | some out => if out.wr.isEmpty && out.new.isNone then evQuiet call A rest (rput R o.dst out.v) else none
        | none => none
    else evQuiet call A rest (rput R o.dst undefA)

/-- Does an operation seem to leave the memory as it is? -/
def quietOp : IOp → Bool
  | .call (.const (.func (.func g) _ _)) _ => !(E.noisy g)
  | .call _ _ | .invoke _ _ _ | .panic _ | .alloc _ | .box _ | .buildSlice _ _ _ _ | .store _ _ _ | .mkMap | .mkSlice _ _ _ _ _ | .mapSet _ _ _ _ | .rangeStr _ | .nextStr _ | .append _ _ _ _ | .appendZ _ _ _ _ _ | .clear _ _ _ | .clearMap _ | .copy _ _ _ => false
  | _ => true

def quietSeg (s : List (IOper × List Nat)) : Bool := s.all fun q => quietOp E q.1.op

/-- A part of a region that draws its order. -/
def evSeg (call : CallF) (s : List (IOper × List Nat)) (R : Regs) (A : Heap) : Option OR :=
  match s with
  | [] => some (OR.next R A)
  | [q] => evOps E call [q.1] R A
  | s => if quietSeg E s then (evQuiet E call A s R).map (fun R' => OR.next R' A) else evRegion E call s R A

/-- A region that draws its order: parts of it that come one after the other, whatever the order. -/
def evSegs (call : CallF) : List (List (IOper × List Nat)) → Regs → Heap → Option OR
  | [], R, A => some (.next R A)
  | s :: rest, R, A => match evSeg E call s R A with
    | some (.next R' A') => evSegs call rest R' A'
    | r => r

end

/-- What stays of a value when the blocks from n on are given up: what it is made of is frozen. -/
def freezeList (f : AV → Option AV) : List AV → Option (List AV)
  | [] => some []
  | a :: x => match f a, freezeList f x with
    | some b, some y => some (b :: y)
    | _, _ => none

/-- top: references to what was there before may stay. -/
def freeze (n : Nat) (A : Heap) : (fuel : Nat) → (top : Bool) → AV → Option AV
  | 0, _, _ => none
  | k + 1, top, v => match v with
    | .own id off len clip => if id < n then (if top then some v else none) else match hget A id with
      | .cells _ es => if off + len ≤ es.length then (freezeList (freeze n A k false) ((es.drop off).take len)).map fun l => .frz l clip else none
      | _ => none
    | .ptr id i off => if id < n then (if top then some v else none) else match hget A id with
      | .cells _ es => (freezeList (freeze n A k false) es).map fun l => .fp l i off
      | _ => none
    | .map id | .yld id => if id < n ∧ top then some v else none
    | .func f a b => match freezeList (freeze n A k top) a, freezeList (freeze n A k top) b with
      | some x, some y => some (.func f x y)
      | _, _ => none
    | .iface t x => (freeze n A k top x).map (.iface t)
    | .agg cs => (freezeList (freeze n A k top) cs).map .agg
    | .tuple cs => (freezeList (freeze n A k top) cs).map .tuple
    | v => some v

def resOf (R : Regs) (A : Heap) : List IRes → Option (List AV)
  | [] => some []
  | r :: rest =>
    match (match r with | .tmp t => some (rget R t) | .cell a g n => ld A g n (rget R a)), resOf R A rest with
    | some v, some vs => some (v :: vs)
    | _, _ => none

def tupled : List AV → AV
  | [v] => v
  | l => .tuple l

/-- Behind a call: what the function made is given up, but for what it hands back, frozen; where it is to be kept, or older blocks name it, nothing is. -/
def leave (keep : Bool) (A A' : Heap) (v : AV) : AV × Heap :=
  if keep then (v, A') else
  match freeze A.length A' 64 true v, trunc A A' with
  | some v', some A'' => (v', A'')
  | _, _ => (v, A')

/-- A function's body, walked, and left. -/
def callBody (E : Env) (rec : List LoopInfo → ICode → Regs → Heap → Option (AExit × Regs × Heap)) (Λ : List LoopInfo) (g : FuncId) (F : IFun) (xs : List AV) (A : Heap) : Option (CRes × Heap) :=
  match rec Λ F.body (xs ++ List.replicate (F.ntmps - xs.length) undefA) A with
  | some (.panic v, _, A') => some (.panic (leave (E.keep g) A A' v).1, (leave (E.keep g) A A' v).2)
  | some (.normal, R', A') | some (.ret, R', A') => match resOf R' A' F.results with
    | some vs => some (.ret (leave (E.keep g) A A' (tupled vs)).1, (leave (E.keep g) A A' (tupled vs)).2)
    | none => none
  | _ => none

/-- What a call with no memory comes to, beside the memory there is. -/
def asideOf (A : Heap) : Option (CRes × Heap) → Option (CRes × Heap)
  | some (.ret v, []) => if v.under 0 then some (.ret v, A) else none
  | _ => none

/-- A call of a value, by what code comes to. -/
def callOf (E : Env) (rec : List LoopInfo → ICode → Regs → Heap → Option (AExit × Regs × Heap)) (Λ : List LoopInfo) : CallF := fun f as0 A => match f with
  | .func (.func g) first captured =>
    match E.intr g with
    | some h => match h (first ++ as0 ++ captured) A with
      | some (v, A') => some (.ret v, A')
      | none => none
    | none => match E.fns g with
      | none => none
      | some F => match E.easy g (first ++ as0 ++ captured) with
        | some v => some (.ret v, A)
        | none =>
          if E.apart g && AV.unders 0 (first ++ as0 ++ captured) then asideOf A (callBody E rec [] g F (first ++ as0 ++ captured) [])
          else callBody E rec Λ g F (first ++ as0 ++ captured) A
  | .yld l => match Λ.find? (fun i => i.id == l) with
    | some i => if as0.length = i.params.length then
      match rec Λ i.assign ((i.params.zip as0).foldl (fun R p => rset R p.1 p.2) i.regs) A with
      | some (.normal, R1, A1) => match hget A1 l with
        | .loop true none => match rec Λ i.body R1 (A1.set l (.loop false none)) with
          | some (e, _, A2) => match hget A2 l with
            | .loop _ _ => match e with
              | .normal => some (.ret (.bool true), A2.set l (.loop true none))
              | .ret => some (.ret (.bool false), A2.set l (.loop false (some .ret)))
              | .exit id => some (.ret (.bool false), A2.set l (.loop false (some (.exit id))))
              | .panic _ => none
            | _ => none
          | none => none
        | _ => none
      | _ => none
      else none
    | none => none
  | _ => none

/-- A function's value whose code is walked. -/
def plainFunc (E : Env) : AV → Bool
  | .func (.func g) _ _ => (E.intr g).isNone
  | _ => false

/-- Code, by a bound on its depth. 'Λ': the loops over functions that are under way; 'rnd': does the code stand in a round of one of them? -/
def ev (E : Env) : Nat → List LoopInfo → ICode → Regs → Heap → Option (AExit × Regs × Heap)
  | 0, _, _, _, _ => none
  | n + 1, Λ, c, R, A =>
    match c with
    | .skip => some (.normal, R, A)
    | .ops l => match evOps E (callOf E (ev E n) Λ) l R A with
      | some (.next R' A') => some (.normal, R', A')
      | some (.panic v R' A') => some (.panic v, R', A')
      | none => none
    | .draw l => match evSegs E (callOf E (ev E n) Λ) l R A with
      | some (.next R' A') => some (.normal, R', A')
      | some (.panic v R' A') => some (.panic v, R', A')
      | none => none
    | .seq a b => match ev E n Λ a R A with
      | some (.normal, R', A') => ev E n Λ b R' A'
      | r => r
    | .cond c a b => match arg E R c with
      | .bool t => ev E n Λ (if t then a else b) R A
      | _ => none
    | .block id b => match ev E n Λ b R A with
      | some (.exit j, R', A') => if j = id then some (.normal, R', A') else some (.exit j, R', A')
      | r => r
    | .loop b => match ev E n Λ b R A with
      | some (.normal, R', A') => ev E n Λ (.loop b) R' A'
      | r => r
    | .rangeF f ps asg b =>
      if plainFunc E (arg E R f) then
        match callOf E (ev E n) (⟨A.length, R, ps, asg, b⟩ :: Λ) (arg E R f) [.yld A.length] (A ++ [.loop true none]) with
        | some (.ret _, A1) => match hget A1 A.length with
          | .loop true none => some (.normal, R, A1.set A.length .dead)
          | .loop false (some .ret) => some (.ret, R, A1.set A.length .dead)
          | .loop false (some (.exit id)) => some (.exit id, R, A1.set A.length .dead)
          | _ => none
        | _ => none
      else none
    | .exit id => some (.exit id, R, A)
    | .ret => some (.ret, R, A)

end Go.Abs

/- The instructions of the abstract reading out of the model's own code, the types resolved. No statement is proved here. -/
namespace Go.Abs

def constA : Nat → Value → Option AV
  | 0, _ => none
  | k + 1, v => match v with
    | .bool b => some (.bool b)
    | .int k n => some (.int k n)
    | .string s => some (.str s)
    | .pointer none => some .nilp
    | .slice none 0 0 => some (.frz [] true)
    | .map none => some .nilm
    | .nilFunc => some .nilf
    | .nilIface => some .nili
    | .agg cs => match cs.toList.mapM (constA k) with | some l => if l.all AV.isCell then some (.agg l) else none | none => none
    | .tuple cs => if cs.isEmpty then some (.tuple []) else none
    | _ => none

/-- 'gl': the package-level variables that may be named. -/
def argC (gl : List Nat) : Operand → Option Arg
  | .tmp t => some (.reg t)
  | .const v => (constA 8 v).map .const
  | .func f => some (.const (.func (.func f) [] []))
  | .global g => if gl.contains g then some (.glob g) else none

section
variable (P : Program) (gl : List Nat)

def szT (t : TypeId) : Option Nat := (P.info? t).map (·.size)
def byT (t : TypeId) : Option Nat := (P.info? t).map (·.bytes)
def zeT (t : TypeId) : Option AV := ((P.info? t).bind (·.zero)).bind (constA 8)
def agT (t : TypeId) : Option Bool := (P.underlying t).map fun d => match d with | .struct _ | .array _ _ => true | _ => false

def kcOf : TypeDesc → Option KC
  | .int _ => some .int
  | .bool => some .bool
  | .string => some .str
  | _ => none

/-- The kinds of a struct's cells, field after field. -/
def flatFs (g : TypeId → Option (List KC)) : List Field → Nat → Option (List KC)
  | [], _ => some []
  | f :: fs, off => if f.name == "_" || f.offset != off then none else match g f.type with
    | some l => if szT P f.type = some l.length then (flatFs g fs (off + l.length)).map (l ++ ·) else none
    | none => none

/-- Made of whole numbers, bools and strings alone: the kinds of the cells, in order. -/
def flatT : Nat → TypeId → Option (List KC)
  | 0, _ => none
  | k + 1, t => match P.underlying t with
    | some (.struct fs) => if P.stoodInHeld t then none else flatFs P (flatT k) fs.toList 0
    | some (.array n e) => match flatT k e with
      | some l => if szT P e = some l.length then some (List.replicate n l).flatten else none
      | none => none
    | some d => (kcOf d).map fun c => [c]
    | none => none

def eqT (t : TypeId) : Option EqK :=
  match P.underlying t with
  | some (.struct _) | some (.array _ _) => if P.eqGuardType P.depth t then none else match flatT P 8 t with | some l => if szT P t = some l.length then some (.many l) else none | none => none
  | some d => (kcOf d).map .one
  | none => none

def compCall (c : Call) : Option IOp := do
  let as0 ← c.args.toList.mapM (argC gl)
  match c.callee with
  | .value f => some (.call (← argC gl f) as0)
  | .invoke r m => some (.invoke (← argC gl r) m as0)
  | .builtin b =>
    let t ← c.argTypes[0]?
    let d ← P.underlying t
    match b, as0 with
    | .append, [x, y] =>
      let .slice e := d | none
      let t1 ← c.argTypes[1]?
      match P.underlying t1 with
      | some (.slice _) | some .string => if (zeT P e).map (·.cells.length) = szT P e ∧ (zeT P e).all (fun z => z.cells.all AV.isCell) then some (.append (← szT P e) (← byT P e) x y) else none
      | some (.int _) => if (zeT P e).map (·.cells.length) = szT P e ∧ (zeT P e).all (fun z => z.cells.all AV.isCell) then some (.appendZ (← szT P e) (← byT P e) (← zeT P e) x y) else none
      | _ => none
    | .len, [x] => match d with
      | .string => some (.len .str x)
      | .slice _ => some (.len .slice x)
      | .map _ _ => some (.len .map x)
      | .array n _ => some (.lenConst n)
      | _ => none
    | .cap, [x] => match d with
      | .slice _ => some (.capClip x)
      | _ => none
    | .min, [x, y] => some (.min2 x y)
    | .max, [x, y] => some (.max2 x y)
    | .copy, [x, y] =>
      let .slice e := d | none
      let t1 ← c.argTypes[1]?
      match P.underlying t1 with
      | some (.slice _) => some (.copy (← szT P e) x y)
      | _ => none
    | .clear, [x] => match d with
      | .slice e => some (.clear (← szT P e) (← zeT P e) x)
      | .map _ _ => some (.clearMap x)
      | _ => none
    | _, _ => none

def placesOf (fs : Array Field) : Option (List (Nat × Nat)) := fs.toList.mapM fun f => (P.info? f.type).map fun i => (f.offset, i.size)

def places (pl : List (Nat × Nat)) (parts : List (Nat × Operand)) : Option (List (Nat × Nat × Arg)) :=
  parts.mapM fun (i, x) => do
    let p ← pl[i]?
    some (p.1, p.2, ← argC gl x)

/-- The nil of a type that has one. -/
def nilOf : TypeDesc → Operand → Option NK
  | .pointer _, .const (.pointer none) => some .ptr
  | .slice _, .const (.slice none 0 0) => some .slice
  | .map _ _, .const (.map none) => some .map
  | .func _ _ _, .const .nilFunc => some .func
  | .interface _, .const .nilIface => some .iface
  | _, _ => none

def compOp (o : Oper) : Option IOp :=
  match o.op with
  | .move x | .assign x => do some (.mov (← argC gl x))
  | .pick c a b => do some (.pick (← argC gl c) (← argC gl a) (← argC gl b))
  | .alloc t => do some (.alloc (← zeT P t))
  | .box _ x => do some (.box (← argC gl x))
  | .build t ps => do
    match ← P.underlying t, ← zeT P t with
    | .struct fs, .agg z => do
      let pl ← placesOf P fs
      some (.build z (← places gl pl ps.toList))
    | .array _ e, .agg z => do
      let s ← szT P e
      some (.build z (← ps.toList.mapM fun (i, x) => do some (i * s, s, ← argC gl x)))
    | _, _ => none
  | .buildSlice t n ps => do
    let .slice e ← P.underlying t | none
    let s ← szT P e
    if n * s > 2 ^ 24 ∨ s = 0 ∨ (n = 0 ∧ ps.size ≠ 0) then none else
    some (.buildSlice s (← zeT P e) n (← ps.toList.mapM fun (i, x) => do some (i, ← argC gl x)))
  | .load t a => do some (.load (← agT P t) (← szT P t) (← argC gl a))
  | .store t a x => do some (.store (← szT P t) (← argC gl a) (← argC gl x))
  | .nilCheck x => do some (.nilCheck (← argC gl x))
  | .binOp op t x y _ => do
    match op with
    | .eql | .neq => match ← P.underlying t with
      | .pointer e => do some (.isNil (← nilOf (.pointer e) y) (op matches .neq) (← argC gl x))
      | .slice e => do some (.isNil (← nilOf (.slice e) y) (op matches .neq) (← argC gl x))
      | .map k e => do some (.isNil (← nilOf (.map k e) y) (op matches .neq) (← argC gl x))
      | .func a b c => do some (.isNil (← nilOf (.func a b c) y) (op matches .neq) (← argC gl x))
      | .interface ms => do some (.isNil (← nilOf (.interface ms) y) (op matches .neq) (← argC gl x))
      | _ => some (.eqv (op matches .neq) (← eqT P t) (← argC gl x) (← argC gl y))
    | _ => some (.bin op (← argC gl x) (← argC gl y))
  | .unOp op _ x => do some (.un op (← argC gl x))
  | .convert s d x => do
    match ← P.underlying s, ← P.underlying d with
    | .int _, .int k => some (.conv k (← argC gl x))
    | .string, .string => some (.convStr (← argC gl x))
    | _, _ => none
  | .makeInterface t x => do
    match ← P.underlying t with
    | .interface _ => none
    | _ => some (.mkIface t (← argC gl x))
  | .makeFunc fn a b => match fn with
    | .func _ => do some (.mkFunc fn (← a.toList.mapM (argC gl)) (← b.toList.mapM (argC gl)))
    | _ => none
  | .makeMap t r => do
    let .map _ _ ← P.underlying t | none
    match r with
    | none => some .mkMap
    | some (.const (.int _ _)) => some .mkMap
    | _ => none
  | .makeSlice t l c => do
    let .slice e ← P.underlying t | none
    some (.mkSlice (← szT P e) (← byT P e) (← zeT P e) (← argC gl l) (← argC gl c))
  | .slice t x lo hi mx => do
    match ← P.underlying t with
    | .string => match mx with
      | none => some (.sliceStr (← argC gl x) (← lo.mapM (argC gl)) (← hi.mapM (argC gl)))
      | some _ => none
    | .slice e => some (.slice (← szT P e) (← argC gl x) (← lo.mapM (argC gl)) (← hi.mapM (argC gl)) (← mx.mapM (argC gl)))
    | _ => none
  | .fieldAddr s x f => do
    let .struct fs ← P.underlying s | none
    let fd ← fs[f]?
    let sz ← szT P fd.type
    if sz = 0 then none else some (.addOff (← argC gl x) fd.offset)
  | .field t x f => do
    let .struct fs ← P.underlying t | none
    let fd ← fs[f]?
    some (.part (← agT P fd.type) fd.offset (← szT P fd.type) (← argC gl x))
  | .indexAddr t x i => do
    match ← P.underlying t with
    | .array n e => some (.idxA n (← szT P e) (← argC gl x) (← argC gl i))
    | .slice e => some (.idxS (← szT P e) (← argC gl x) (← argC gl i))
    | _ => none
  | .index t x i => do
    match ← P.underlying t with
    | .array n e => some (.idxV (← agT P e) n (← szT P e) (← argC gl x) (← argC gl i))
    | .string => some (.idxStr (← argC gl x) (← argC gl i))
    | _ => none
  | .lookup t x i ok => do
    let .map k e ← P.underlying t | none
    some (.lookup (← eqT P k) (← zeT P e) ok (← argC gl x) (← argC gl i))
  | .mapUpdate t m k v | .insert t m k v => do
    let .map kt _ ← P.underlying t | none
    some (.mapSet (← eqT P kt) (← argC gl m) (← argC gl k) (← argC gl v))
  | .range t x => do
    let .string ← P.underlying t | none
    some (.rangeStr (← argC gl x))
  | .next it isString => if isString then do some (.nextStr (← argC gl it)) else none
  | .typeAssert x _ t ok => do
    match ← P.underlying t with
    | .interface _ => none
    | _ => some (.tassert t (← zeT P t) ok (← argC gl x))
  | .extract x i => do some (.extract (← argC gl x) i)
  | .call c => compCall P gl c
  | .panic x => do some (.panic (← argC gl x))
  | _ => none

def compOper (ops : Array Oper) (o : Oper) : Option IOper := do
  some { dst := o.dst, guard := o.guard.map fun (j, w) => ((ops[j]?).bind (·.dst), w), op := ← compOp P gl o }

/-- What goes before each operation, whatever the order; none where an edge leads forward. -/
def preOf (acc : List (List Nat)) : List Edge → Option (List Nat)
  | [] => some []
  | e :: rest => match preOf acc rest with
    | none => none
    | some l => if Region.binds .any e then (if e.on < acc.length then some (e.on :: acc.getD e.on [] ++ l) else none) else some l

def presOf : List Oper → List (List Nat) → Option (List (List Nat))
  | [], acc => some acc
  | o :: rest, acc => match preOf acc o.after.toList with
    | some p => presOf rest (acc ++ [(List.range acc.length).filter p.contains])
    | none => none

/-- What an operation reads. -/
def IOp.argsOf : IOp → List Arg
  | .mov x | .box x | .nilCheck x | .un _ x | .conv _ x | .convStr x | .mkIface _ x | .addOff x _ | .part _ _ _ x | .rangeStr x | .nextStr x | .tassert _ _ _ x | .extract x _ | .len _ x | .capClip x | .clear _ _ x | .clearMap x | .panic x | .load _ _ x | .isNil _ _ x => [x]
  | .pick a b c | .mapSet _ a b c => [a, b, c]
  | .store _ a b | .bin _ a b | .eqv _ _ a b | .mkSlice _ _ _ a b | .idxS _ a b | .idxA _ _ a b | .idxV _ _ _ a b | .idxStr a b | .lookup _ _ _ a b | .append _ _ a b | .appendZ _ _ _ a b | .min2 a b | .max2 a b | .copy _ a b => [a, b]
  | .build _ ps => ps.map (·.2.2)
  | .buildSlice _ _ _ ps => ps.map (·.2)
  | .mkFunc _ a b => a ++ b
  | .slice _ x a b c => x :: (a.toList ++ b.toList ++ c.toList)
  | .sliceStr x a b => x :: (a.toList ++ b.toList)
  | .call f l => f :: l
  | .invoke x _ l => x :: l
  | .alloc _ | .mkMap | .lenConst _ => []

/-- Does an operation read a register? -/
def IOper.reads (o : IOper) (t : Nat) : Bool :=
  o.op.argsOf.any (fun x => match x with | .reg d => d == t | _ => false) || (match o.guard with | some (some d, _) => d == t | _ => false)

/-- Operations that no edge orders share no register that one of them writes. -/
def apartOk (l : List (IOper × List Nat)) : Bool :=
  l.zipIdx.all fun q => l.zipIdx.all fun p => q.2 == p.2 || q.1.2.contains p.2 || p.1.2.contains q.2 ||
    (match q.1.1.dst with | some d => !(p.1.1.reads d) && p.1.1.dst != some d | none => true)

/-- Is everything before e before everything from e on? -/
def isCut (pres : List (List Nat)) (e : Nat) : Bool :=
  pres.zipIdx.all fun q => decide (q.2 < e) || (List.range e).all fun i => q.1.contains i

/-- The parts of a region that come one after the other: each has what goes before each of its operations, counted from the part's start. -/
def segsOf (cut : Nat → Bool) : List (IOper × List Nat) → (j start : Nat) → List (IOper × List Nat) → List (List (IOper × List Nat))
  | [], _, _, cur => [cur]
  | (o, pre) :: rest, j, start, cur =>
    if cut j then cur :: segsOf cut rest (j + 1) j [(o, (pre.filter (j ≤ ·)).map (· - j))]
    else segsOf cut rest (j + 1) start (cur ++ [(o, (pre.filter (start ≤ ·)).map (· - start))])

def compCode : Code → Option ICode
  | .skip => some .skip
  | .label _ => some .skip
  | .region _ ops draw => do
    let l ← ops.toList.mapM (compOper P gl ops)
    if draw then
      let pres ← presOf ops.toList []
      if pres.length = l.length ∧ (segsOf (isCut pres) (l.zip pres) 0 0 []).all apartOk then some (.draw (segsOf (isCut pres) (l.zip pres) 0 0 [])) else none
    else some (.ops l)
  | .seq a b => do some (.seq (← compCode a) (← compCode b))
  | .cond c a b => do some (.cond (← argC gl c) (← compCode a) (← compCode b))
  | .block id b => do some (.block id (← compCode b))
  | .loop b => do some (.loop (← compCode b))
  | .rangeFunc f ps a b => do some (.rangeF (← argC gl f) ps.toList (← compCode a) (← compCode b))
  | .scope b => compCode b
  | .exit id => some (.exit id)
  | .ret => some .ret
  | _ => none

def compRes : ResultVar → Option IRes
  | .tmp t => some (.tmp t)
  | .cell a t => do some (.cell a (← agT P t) (← szT P t))

def compFun (f : FuncId) : Option IFun := do
  let fn ← P.funcs[f]?
  let b ← fn.body
  some { ntmps := fn.ntmps, results := ← fn.results.toList.mapM (compRes P), body := ← compCode P gl b }

/-- Methods whose receiver is the interface's own value. -/
def mtabOf (t : TypeId) (m : String) : Option (FuncId × Bool) := do
  let i ← P.info? t
  let x ← i.methods.find? (·.name == m)
  if !x.path.isEmpty then none else
  let (f, ptr) ← x.func
  match ← P.underlying t, ptr with
  | .pointer _, true => some (f, ptr)
  | .pointer _, false => none
  | _, false => some (f, ptr)
  | _, _ => none

end
end Go.Abs

/- What the abstract reading means: values, blocks and heaps against the model's world; what a step may change; how that is carried. -/
namespace Go.Abs

/-- Where an abstract block lies: the model's block, its first cell there, the cells of one element. -/
abbrev Sig := Nat → Nat × Nat × Nat
def Sig.blk (σ : Sig) (id : Nat) : Nat := (σ id).1
def Sig.base (σ : Sig) (id : Nat) : Nat := (σ id).2.1
def Sig.esz (σ : Sig) (id : Nat) : Nat := (σ id).2.2

/-- A value reads as an abstract one. 'F': the model's blocks that nobody writes any more. 'n': the abstract blocks that may be named. -/
inductive VR (w : World) (σ : Sig) (F : Nat → Prop) (D : Nat → Prop) : AV → Value → Prop
  | bool (b : Bool) : VR w σ F D (.bool b) (.bool b)
  | int (k : IntKind) (i : Int) : VR w σ F D (.int k i) (.int k i)
  | str (s : ByteArray) : VR w σ F D (.str s) (.string s)
  | frz0 (clip : Bool) (a : Option Addr) (cap : Nat) (h : clip = true → cap = 0) : VR w σ F D (.frz [] clip) (.slice a 0 cap)
  | frz1 (es : List AV) (clip : Bool) (b off cap esz : Nat) (f : Nat → Nat → Value) (hc : es.length ≤ cap) (hcl : clip = true → cap = es.length) (hF : F b)
      (hs : ∀ e ∈ es, e.cells.length = esz) (hp : ∀ e ∈ es, e.under 0 = true) (hcell : ∀ e ∈ es, ∀ x ∈ e.cells, x.isCell = true)
      (hm : ∀ (i : Nat) e (j : Nat) x, es[i]? = some e → e.cells[j]? = some x → w.cell? ⟨b, off + i * esz + j, none⟩ = some (f i j))
      (hv : ∀ (i : Nat) e (j : Nat) x, es[i]? = some e → e.cells[j]? = some x → VR w σ F D x (f i j)) : VR w σ F D (.frz es clip) (.slice (some ⟨b, off, none⟩) es.length cap)
  | own (id off len cap : Nat) (clip : Bool) (a : Option Addr) (hn : D id) (hc : len ≤ cap) (hcl : clip = true → cap = len)
      (ha : cap = 0 ∨ a = some ⟨σ.blk id, σ.base id + off * σ.esz id, none⟩)
      (hroom : cap = 0 ∨ ∃ vs T fr, w.heap[σ.blk id]? = some (Obj.cells vs T fr) ∧ σ.base id + (off + cap) * σ.esz id ≤ vs.size) : VR w σ F D (.own id off len clip) (.slice a len cap)
  | nilp : VR w σ F D .nilp (.pointer none)
  | ptr (id i off : Nat) (hn : D id) : VR w σ F D (.ptr id i off) (.pointer (some ⟨σ.blk id, σ.base id + i * σ.esz id + off, none⟩))
  | fp (es : List AV) (i off b base esz : Nat) (f : Nat → Nat → Value) (hF : F b)
      (hs : ∀ e ∈ es, e.cells.length = esz) (hp : ∀ e ∈ es, e.under 0 = true) (hcell : ∀ e ∈ es, ∀ x ∈ e.cells, x.isCell = true)
      (hm : ∀ (i : Nat) e (j : Nat) x, es[i]? = some e → e.cells[j]? = some x → w.cell? ⟨b, base + i * esz + j, none⟩ = some (f i j))
      (hv : ∀ (i : Nat) e (j : Nat) x, es[i]? = some e → e.cells[j]? = some x → VR w σ F D x (f i j)) : VR w σ F D (.fp es i off) (.pointer (some ⟨b, base + i * esz + off, none⟩))
  | map (id : Nat) (hn : D id) : VR w σ F D (.map id) (.map (some (σ.blk id)))
  | nilm : VR w σ F D .nilm (.map none)
  | func (fn : Fn) (as0 bs : List AV) (us vs : Array Value) (ha : us.size = as0.length) (hb : vs.size = bs.length)
      (hav : ∀ (i : Nat) x u, as0[i]? = some x → us[i]? = some u → VR w σ F D x u) (hbv : ∀ (i : Nat) x u, bs[i]? = some x → vs[i]? = some u → VR w σ F D x u) : VR w σ F D (.func fn as0 bs) (.func fn us vs)
  | yld (l : Nat) (hn : D l) : VR w σ F D (.yld l) (.func (.yield (σ.blk l)) #[] #[])
  | nilf : VR w σ F D .nilf .nilFunc
  | iface (t : Nat) (v : AV) (u : Value) (h : VR w σ F D v u) : VR w σ F D (.iface t v) (.iface t u)
  | nili : VR w σ F D .nili .nilIface
  | agg (cs : List AV) (us : Array Value) (hl : us.size = cs.length) (hcell : ∀ x ∈ cs, x.isCell = true) (hv : ∀ (i : Nat) x u, cs[i]? = some x → us[i]? = some u → VR w σ F D x u) : VR w σ F D (.agg cs) (.agg us)
  | tuple (cs : List AV) (us : Array Value) (hl : us.size = cs.length) (hv : ∀ (i : Nat) x u, cs[i]? = some x → us[i]? = some u → VR w σ F D x u) : VR w σ F D (.tuple cs) (.tuple us)

def pendCode : Option Pend → Option Code
  | none => none
  | some .ret => some .ret
  | some (.exit id) => some (.exit id)
  | some (.goto l) => some (.goto l)

def loopState : Bool → Option Pend → LoopState
  | true, _ => .ready
  | false, none => .busy
  | false, some _ => .done

/-- A block reads as an abstract one. -/
def BR (w : World) (σ : Sig) (F : Nat → Prop) (D : Nat → Prop) (id : Nat) : Blk → Prop
  | .dead => True
  | .cells esz es => σ.esz id = esz ∧ (∀ e ∈ es, e.cells.length = esz) ∧ (∀ e ∈ es, ∀ x ∈ e.cells, x.isCell = true) ∧ ∃ vs T, w.heap[σ.blk id]? = some (.cells vs T (0, 0)) ∧
      ∀ (i : Nat) e (j : Nat) x, es[i]? = some e → e.cells[j]? = some x → ∃ u, vs[σ.base id + i * esz + j]? = some u ∧ VR w σ F D x u
  | .map es => ∃ ms clock, w.heap[σ.blk id]? = some (.map ms clock) ∧ ms.size = es.length ∧
      ∀ (i : Nat) e m, es[i]? = some e → ms[i]? = some m → VR w σ F D e.1 m.key ∧ VR w σ F D e.2 m.val
  | .siter s pos => σ.base id = 0 ∧ w.heap[σ.blk id]? = some (.stringIter s pos)
  | .loop ready p => ∃ r, w.heap[σ.blk id]? = some (Obj.loop r) ∧ r.state = loopState ready p ∧ r.pending = pendCode p

/-- The model's blocks that belong to live abstract ones. -/
def Own (H : Nat → Blk) (σ : Sig) (b : Nat) : Prop := ∃ id, (H id).live = true ∧ σ.blk id = b

structure Rel (H : Nat → Blk) (D : Nat → Prop) (w : World) (σ : Sig) (F : Nat → Prop) : Prop where
  dom : ∀ id, (H id).live = true → D id
  br : ∀ id, BR w σ F D id (H id)
  inj : ∀ i j, (H i).live = true → (H j).live = true → σ.blk i = σ.blk j → i = j
  size : ∀ b, Own H σ b → b < w.heap.size
  fsize : ∀ b, F b → b < w.heap.size
  apart : ∀ b, F b → ¬ Own H σ b

/-- What a step leaves as it was. -/
structure Ext (H : Nat → Blk) (σ : Sig) (F : Nat → Prop) (w : World) (F' : Nat → Prop) (w' : World) : Prop where
  size : w.heap.size ≤ w'.heap.size
  same : ∀ b, b < w.heap.size → ¬ Own H σ b → w'.heap[b]? = w.heap[b]?
  cells : ∀ (b : Nat) (vs : Array Value) (T : TypeId) (fr : Nat × Nat), w.heap[b]? = some (Obj.cells vs T fr) → ∃ vs', w'.heap[b]? = some (Obj.cells vs' T fr) ∧ vs'.size = vs.size
  loops : ∀ (b : Nat) (r : Loop), w.heap[b]? = some (Obj.loop r) → ∃ st p, w'.heap[b]? = some (Obj.loop { r with state := st, pending := p })
  mono : ∀ b, F b → F' b
  new : ∀ b, F' b → F b ∨ w.heap.size ≤ b ∨ Own H σ b
  os : w'.os = w.os
  output : w'.output = w.output
  tape : w'.tape = w.tape

/-- A step from heap to heap. -/
structure Step (H : Nat → Blk) (D : Nat → Prop) (σ : Sig) (F : Nat → Prop) (w : World) (H' : Nat → Blk) (D' : Nat → Prop) (σ' : Sig) (F' : Nat → Prop) (w' : World) : Prop where
  rel : Rel H' D' w' σ' F'
  ext : Ext H σ F w F' w'
  sig : ∀ id, D id → σ' id = σ id
  le : ∀ id, D id → D' id
  owns : ∀ b, Own H' σ' b → Own H σ b ∨ w.heap.size ≤ b

variable {H H' H'' : Nat → Blk} {D D' D'' : Nat → Prop} {σ σ' σ'' : Sig} {F F' F'' : Nat → Prop} {w w' w'' : World} {v : AV} {u : Value}

theorem Ext.refl (H : Nat → Blk) (σ : Sig) (F : Nat → Prop) (w : World) : Ext H σ F w F w :=
  ⟨Nat.le_refl _, fun _ _ _ => rfl, fun _ vs _ _ h => ⟨vs, h, rfl⟩, fun _ r h => ⟨r.state, r.pending, h⟩, fun _ h => h, fun _ h => .inl h, rfl, rfl, rfl⟩

theorem Step.refl (h : Rel H D w σ F) : Step H D σ F w H D σ F w := ⟨h, Ext.refl _ _ _ _, fun _ _ => rfl, fun _ h => h, fun _ h => .inl h⟩

theorem Step.trans (h : Step H D σ F w H' D' σ' F' w') (k : Step H' D' σ' F' w' H'' D'' σ'' F'' w'') : Step H D σ F w H'' D'' σ'' F'' w'' := by
  refine ⟨k.rel, ⟨Nat.le_trans h.ext.size k.ext.size, ?_, ?_, ?_, fun b hb => k.ext.mono b (h.ext.mono b hb), ?_, k.ext.os.trans h.ext.os, k.ext.output.trans h.ext.output, k.ext.tape.trans h.ext.tape⟩, ?_, fun id h1 => k.le id (h.le id h1), ?_⟩
  · intro b hb hn
    rw [k.ext.same b (Nat.lt_of_lt_of_le hb h.ext.size) ?_, h.ext.same b hb hn]
    intro ho
    rcases h.owns b ho with h1 | h1
    · exact hn h1
    · omega
  · intro b vs T fr hb
    obtain ⟨vs1, h1, s1⟩ := h.ext.cells b vs T fr hb
    obtain ⟨vs2, h2, s2⟩ := k.ext.cells b vs1 T fr h1
    exact ⟨vs2, h2, s2.trans s1⟩
  · intro b r hb
    obtain ⟨st, p, h1⟩ := h.ext.loops b r hb
    obtain ⟨st2, p2, h2⟩ := k.ext.loops b _ h1
    exact ⟨st2, p2, h2⟩
  · intro b hb
    rcases k.ext.new b hb with h1 | h1 | h1
    · exact h.ext.new b h1
    · exact .inr (.inl (Nat.le_trans h.ext.size h1))
    · rcases h.owns b h1 with h2 | h2
      · exact .inr (.inr h2)
      · exact .inr (.inl h2)
  · intro id hid
    rw [k.sig id (h.le id hid), h.sig id hid]
  · intro b hb
    rcases k.owns b hb with h1 | h1
    · exact h.owns b h1
    · exact .inr (Nat.le_trans h.ext.size h1)

theorem cell_of_same {a : Addr} (h : w'.heap[a.block]? = w.heap[a.block]?) : w'.cell? a = w.cell? a := by
  unfold World.cell?; rw [h]

theorem getElem?_size {α : Type} {a : Array α} {i : Nat} {x : α} (h : a[i]? = some x) : i < a.size := by
  rcases Nat.lt_or_ge i a.size with h1 | h1
  · exact h1
  · simp [h1] at h

/-- A value's reading is carried over whatever leaves frozen blocks alone. -/
theorem VR.carry (h : VR w σ F D v u) (hF : ∀ b, F b → F' b) (hs : ∀ b, F b → w'.heap[b]? = w.heap[b]?)
    (hc : ∀ (b : Nat) (vs : Array Value) (T : TypeId) (fr : Nat × Nat), w.heap[b]? = some (Obj.cells vs T fr) → ∃ vs', w'.heap[b]? = some (Obj.cells vs' T fr) ∧ vs'.size = vs.size)
    (hσ : ∀ id, D id → σ' id = σ id) (hn : ∀ id, D id → D' id) : VR w' σ' F' D' v u := by
  induction h with
  | bool b => exact .bool b
  | int k i => exact .int k i
  | str s => exact .str s
  | frz0 clip a cap h => exact .frz0 clip a cap h
  | frz1 es clip b off cap esz f hc' hcl hFb hs' hp hcell hm hv ih =>
    exact .frz1 es clip b off cap esz f hc' hcl (hF b hFb) hs' hp hcell (fun i e j x h1 h2 => (cell_of_same (hs b hFb)).trans (hm i e j x h1 h2)) ih
  | own id off len cap clip a hn' hc' hcl ha hroom =>
    refine .own id off len cap clip a (hn _ hn') hc' hcl ?_ ?_
    · unfold Sig.blk Sig.base Sig.esz at *; rw [hσ id hn']; exact ha
    · rcases hroom with h0 | ⟨vs, T, fr, h1, h2⟩
      · exact .inl h0
      · obtain ⟨vs', h3, h4⟩ := hc _ vs T fr h1
        refine .inr ⟨vs', T, fr, ?_, ?_⟩
        · unfold Sig.blk at *; rw [hσ id hn']; exact h3
        · unfold Sig.base Sig.esz at *; rw [hσ id hn', h4]; exact h2
  | nilp => exact .nilp
  | ptr id i off hn' =>
    have := VR.ptr (w := w') (σ := σ') (F := F') (D := D') id i off (hn _ hn')
    unfold Sig.blk Sig.base Sig.esz at *; rw [hσ id hn'] at this; exact this
  | fp es i off b base esz f hFb hs' hp hcell hm hv ih =>
    exact .fp es i off b base esz f (hF b hFb) hs' hp hcell (fun i e j x h1 h2 => (cell_of_same (hs b hFb)).trans (hm i e j x h1 h2)) ih
  | map id hn' =>
    have := VR.map (w := w') (σ := σ') (F := F') (D := D') id (hn _ hn')
    unfold Sig.blk at *; rw [hσ id hn'] at this; exact this
  | nilm => exact .nilm
  | func fn as0 bs us vs ha hb hav hbv iha ihb => exact .func fn as0 bs us vs ha hb iha ihb
  | yld l hn' =>
    have := VR.yld (w := w') (σ := σ') (F := F') (D := D') l (hn _ hn')
    unfold Sig.blk at *; rw [hσ l hn'] at this; exact this
  | nilf => exact .nilf
  | iface t v u h ih => exact .iface t v u ih
  | nili => exact .nili
  | agg cs us hl hcell hv ih => exact .agg cs us hl hcell ih
  | tuple cs us hl hv ih => exact .tuple cs us hl ih

theorem Ext.frozen (hr : Rel H D w σ F) (h : Ext H σ F w F' w') (b : Nat) (hb : F b) : w'.heap[b]? = w.heap[b]? :=
  h.same b (hr.fsize b hb) (hr.apart b hb)

theorem VR.step (hr : Rel H D w σ F) (hs : Step H D σ F w H' D' σ' F' w') (h : VR w σ F D v u) : VR w' σ' F' D' v u :=
  h.carry hs.ext.mono (fun b hb => hs.ext.frozen hr b hb) hs.ext.cells hs.sig hs.le

theorem unders_iff {m : Nat} {l : List AV} : AV.unders m l = true ↔ ∀ x ∈ l, x.under m = true := by
  induction l with
  | nil => simp [AV.unders]
  | cons a l ih => simp [AV.unders, ih]

theorem getElem?_of_mem_list {l : List AV} {x : AV} (h : x ∈ l) : ∃ i : Nat, l[i]? = some x := List.getElem?_of_mem h

theorem cells_under {m : Nat} {e : AV} (h : e.under m = true) : ∀ x ∈ e.cells, x.under m = true := by
  cases e <;> simp_all [AV.cells, AV.under, unders_iff]

mutual
theorem under_mono {m k : Nat} : {e : AV} → e.under m = true → m ≤ k → e.under k = true
  | .bool _, _, _ | .int _ _, _, _ | .str _, _, _ | .nilp, _, _ | .nilm, _, _ | .nilf, _, _ | .nili, _, _ | .frz _ _, _, _ | .fp _ _ _, _, _ => rfl
  | .own _ _ _ _, h, hk | .ptr _ _ _, h, hk | .map _, h, hk | .yld _, h, hk => by simp only [AV.under, decide_eq_true_eq] at *; omega
  | .func _ _ _, h, hk => by simp only [AV.under, Bool.and_eq_true] at *; exact ⟨unders_mono h.1 hk, unders_mono h.2 hk⟩
  | .iface _ _, h, hk => by simp only [AV.under] at *; exact under_mono h hk
  | .agg _, h, hk | .tuple _, h, hk => by simp only [AV.under] at *; exact unders_mono h hk
theorem unders_mono {m k : Nat} : {l : List AV} → AV.unders m l = true → m ≤ k → AV.unders k l = true
  | [], _, _ => rfl
  | _ :: _, h, hk => by simp only [AV.unders, Bool.and_eq_true] at *; exact ⟨under_mono h.1 hk, unders_mono h.2 hk⟩
end

/-- What reads with few blocks names few blocks. -/
theorem VR.under {m : Nat} (h : VR w σ F D v u) (hD : ∀ id, D id → id < m) : v.under m = true := by
  induction h with
  | bool b => rfl
  | int k i => rfl
  | str s => rfl
  | frz0 clip a cap h => rfl
  | frz1 => rfl
  | own id off len cap clip a hn => simp [AV.under, hD _ hn]
  | nilp => rfl
  | ptr id i off hn => simp [AV.under, hD _ hn]
  | fp => rfl
  | map id hn => simp [AV.under, hD _ hn]
  | nilm => rfl
  | func fn as0 bs us vs ha hb hav hbv iha ihb =>
    simp only [AV.under, Bool.and_eq_true, unders_iff]
    refine ⟨fun x hx => ?_, fun x hx => ?_⟩
    · obtain ⟨i, hi⟩ := List.getElem?_of_mem hx
      have : i < us.size := by rw [ha]; exact (List.getElem?_eq_some_iff.1 hi).1
      exact iha i x us[i] hi (by simp [this])
    · obtain ⟨i, hi⟩ := List.getElem?_of_mem hx
      have : i < vs.size := by rw [hb]; exact (List.getElem?_eq_some_iff.1 hi).1
      exact ihb i x vs[i] hi (by simp [this])
  | yld l hn => simp [AV.under, hD _ hn]
  | nilf => rfl
  | iface t v u h ih => simpa [AV.under] using ih
  | nili => rfl
  | agg cs us hl hcell hv ih =>
    simp only [AV.under, unders_iff]
    intro x hx
    obtain ⟨i, hi⟩ := List.getElem?_of_mem hx
    have : i < us.size := by rw [hl]; exact (List.getElem?_eq_some_iff.1 hi).1
    exact ih i x us[i] hi (by simp [this])
  | tuple cs us hl hv ih =>
    simp only [AV.under, unders_iff]
    intro x hx
    obtain ⟨i, hi⟩ := List.getElem?_of_mem hx
    have : i < us.size := by rw [hl]; exact (List.getElem?_eq_some_iff.1 hi).1
    exact ih i x us[i] hi (by simp [this])

/-- A value that names few blocks reads with few blocks, by whatever agrees on these. -/
theorem VR.lower {m : Nat} (h : VR w σ F D v u) (hu : v.under m = true) (hσ : ∀ id, D id → id < m → σ' id = σ id) : VR w σ' F (fun id => id < m) v u := by
  induction h with
  | bool b => exact .bool b
  | int k i => exact .int k i
  | str s => exact .str s
  | frz0 clip a cap h => exact .frz0 clip a cap h
  | frz1 es clip b off cap esz f hc' hcl hFb hs' hp hcell hm hv ih =>
    refine .frz1 es clip b off cap esz f hc' hcl hFb hs' hp hcell hm (fun i e j x h1 h2 => ih i e j x h1 h2 ?_)
    have he := hp e (List.mem_of_getElem? h1)
    have hx : x ∈ e.cells := List.mem_of_getElem? h2
    exact under_mono (cells_under he x hx) (Nat.zero_le _)
  | own id off len cap clip a hn' hc' hcl ha hroom =>
    have hid : id < m := by simpa [AV.under] using hu
    refine .own id off len cap clip a hid hc' hcl ?_ ?_
    · unfold Sig.blk Sig.base Sig.esz at *; rw [hσ id hn' hid]; exact ha
    · unfold Sig.blk Sig.base Sig.esz at *; rw [hσ id hn' hid]; exact hroom
  | nilp => exact .nilp
  | ptr id i off hn' =>
    have hid : id < m := by simpa [AV.under] using hu
    have := VR.ptr (w := w) (σ := σ') (F := F) (D := fun id => id < m) id i off hid
    unfold Sig.blk Sig.base Sig.esz at *; rw [hσ id hn' hid] at this; exact this
  | fp es i off b base esz f hFb hs' hp hcell hm hv ih =>
    refine .fp es i off b base esz f hFb hs' hp hcell hm (fun i e j x h1 h2 => ih i e j x h1 h2 ?_)
    have he := hp e (List.mem_of_getElem? h1)
    have hx : x ∈ e.cells := List.mem_of_getElem? h2
    exact under_mono (cells_under he x hx) (Nat.zero_le _)
  | map id hn' =>
    have hid : id < m := by simpa [AV.under] using hu
    have := VR.map (w := w) (σ := σ') (F := F) (D := fun id => id < m) id hid
    unfold Sig.blk at *; rw [hσ id hn' hid] at this; exact this
  | nilm => exact .nilm
  | func fn as0 bs us vs ha hb hav hbv iha ihb =>
    simp only [AV.under, Bool.and_eq_true, unders_iff] at hu
    exact .func fn as0 bs us vs ha hb (fun i x u h1 h2 => iha i x u h1 h2 (hu.1 x (List.mem_of_getElem? h1))) (fun i x u h1 h2 => ihb i x u h1 h2 (hu.2 x (List.mem_of_getElem? h1)))
  | yld l hn' =>
    have hid : l < m := by simpa [AV.under] using hu
    have := VR.yld (w := w) (σ := σ') (F := F) (D := fun id => id < m) l hid
    unfold Sig.blk at *; rw [hσ l hn' hid] at this; exact this
  | nilf => exact .nilf
  | iface t v u h ih => exact .iface t v u (ih (by simpa [AV.under] using hu))
  | nili => exact .nili
  | agg cs us hl hcell hv ih =>
    simp only [AV.under, unders_iff] at hu
    exact .agg cs us hl hcell (fun i x u h1 h2 => ih i x u h1 h2 (hu x (List.mem_of_getElem? h1)))
  | tuple cs us hl hv ih =>
    simp only [AV.under, unders_iff] at hu
    exact .tuple cs us hl (fun i x u h1 h2 => ih i x u h1 h2 (hu x (List.mem_of_getElem? h1)))

end Go.Abs

/- Steps of the model's memory, as steps of abstract heaps. -/
namespace Go.Abs

variable {H H' : Nat → Blk} {D D' : Nat → Prop} {σ σ' : Sig} {F F' : Nat → Prop} {w w' : World} {v : AV} {u : Value}

theorem BR.carry {id : Nat} {B : Blk} (h : BR w σ F D id B) (hB : w'.heap[σ.blk id]? = w.heap[σ.blk id]?) (hi : B.live = true → D id)
    (hF : ∀ b, F b → F' b) (hs : ∀ b, F b → w'.heap[b]? = w.heap[b]?)
    (hc : ∀ (b : Nat) (vs : Array Value) (T : TypeId) (fr : Nat × Nat), w.heap[b]? = some (Obj.cells vs T fr) → ∃ vs', w'.heap[b]? = some (Obj.cells vs' T fr) ∧ vs'.size = vs.size)
    (hσ : ∀ id, D id → σ' id = σ id) (hn : ∀ id, D id → D' id) : BR w' σ' F' D' id B := by
  cases B with
  | dead => trivial
  | cells esz es =>
    have hid := hi rfl
    obtain ⟨h1, h2, h2', vs, T, h3, h4⟩ := h
    have e := hσ id hid
    refine ⟨?_, h2, h2', vs, T, ?_, ?_⟩
    · unfold Sig.esz at *; rw [e]; exact h1
    · unfold Sig.blk at *; rw [e, hB]; exact h3
    · intro i q j x hq hx
      obtain ⟨u, hu, hv⟩ := h4 i q j x hq hx
      refine ⟨u, ?_, hv.carry hF hs hc hσ hn⟩
      unfold Sig.base at *; rw [e]; exact hu
  | map es =>
    have e := hσ id (hi rfl)
    obtain ⟨ms, clock, h1, h2, h4⟩ := h
    refine ⟨ms, clock, ?_, h2, fun i q m hq hm => ⟨(h4 i q m hq hm).1.carry hF hs hc hσ hn, (h4 i q m hq hm).2.carry hF hs hc hσ hn⟩⟩
    unfold Sig.blk at *; rw [e, hB]; exact h1
  | siter s pos =>
    have e := hσ id (hi rfl)
    refine ⟨?_, ?_⟩
    · unfold Sig.base at *; rw [e]; exact h.1
    · unfold Sig.blk at *; rw [e, hB]; exact h.2
  | loop ready p =>
    have e := hσ id (hi rfl)
    obtain ⟨r, h1, h2⟩ := h
    refine ⟨r, ?_, h2⟩
    unfold Sig.blk at *; rw [e, hB]; exact h1

/-- The general step: some blocks are touched, which are owned or new. -/
theorem mkStep (hr : Rel H D w σ F) (t : Nat → Prop) (hn : ∀ id, D id → D' id) (hσ : ∀ id, D id → σ' id = σ id) (hsize : w.heap.size ≤ w'.heap.size)
    (hsame : ∀ b, b < w.heap.size → (∀ id, t id → (H id).live = true → σ.blk id ≠ b) → w'.heap[b]? = w.heap[b]?)
    (hcells : ∀ (b : Nat) (vs : Array Value) (T : TypeId) (fr : Nat × Nat), w.heap[b]? = some (Obj.cells vs T fr) → ∃ vs', w'.heap[b]? = some (Obj.cells vs' T fr) ∧ vs'.size = vs.size)
    (hloops : ∀ (b : Nat) (r : Loop), w.heap[b]? = some (Obj.loop r) → ∃ st p, w'.heap[b]? = some (Obj.loop { r with state := st, pending := p }))
    (hos : w'.os = w.os) (hout : w'.output = w.output) (htape : w'.tape = w.tape)
    (hrest : ∀ id, ¬ t id → H' id = H id)
    (hbr : ∀ id, t id → (H' id).live = true → D' id ∧ BR w' σ' F D' id (H' id) ∧ σ'.blk id < w'.heap.size ∧ (w.heap.size ≤ σ'.blk id ∨ ∃ j, t j ∧ (H j).live = true ∧ σ.blk j = σ'.blk id))
    (hinj : ∀ i j, t i → t j → (H' i).live = true → (H' j).live = true → σ'.blk i = σ'.blk j → i = j) : Step H D σ F w H' D' σ' F w' := by
  have hFs : ∀ b, F b → w'.heap[b]? = w.heap[b]? := fun b hb => hsame b (hr.fsize b hb) (fun id _ hl he => hr.apart b hb ⟨id, hl, he⟩)
  have hold : ∀ id, (H id).live = true → σ'.blk id = σ.blk id := fun id hl => by unfold Sig.blk; rw [hσ id (hr.dom id hl)]
  have hcross : ∀ i j, t i → ¬ t j → (H' i).live = true → (H j).live = true → σ'.blk i ≠ σ.blk j := by
    intro i j hi hj hli hlj he
    obtain ⟨_, _, _, h1 | ⟨k, hk, hlk, hek⟩⟩ := hbr i hi hli
    · have := hr.size _ ⟨j, hlj, rfl⟩; omega
    · have := hr.inj k j hlk hlj (hek.trans he); subst this; exact hj hk
  refine ⟨⟨?_, ?_, ?_, ?_, ?_, ?_⟩, ⟨hsize, ?_, hcells, hloops, fun _ h => h, fun b h => .inl h, hos, hout, htape⟩, hσ, hn, ?_⟩
  · intro id hl
    by_cases ht : t id
    · exact (hbr id ht hl).1
    · rw [hrest id ht] at hl; exact hn id (hr.dom id hl)
  · intro id
    by_cases ht : t id
    · cases hl : (H' id).live with
      | true => exact (hbr id ht hl).2.1
      | false => cases hb : H' id <;> simp_all [Blk.live, BR]
    · rw [hrest id ht]
      cases hl : (H id).live with
      | false => cases hb : H id <;> simp_all [Blk.live, BR]
      | true =>
        refine (hr.br id).carry (hsame _ (hr.size _ ⟨id, hl, rfl⟩) ?_) (fun _ => hr.dom id hl) (fun _ h => h) hFs hcells hσ hn
        intro j hj hlj he
        have := hr.inj j id hlj hl he; subst this; exact ht hj
  · intro i j hli hlj he
    by_cases hi : t i <;> by_cases hj : t j
    · exact hinj i j hi hj hli hlj he
    · rw [hrest j hj] at hlj; rw [hold j hlj] at he; exact absurd he (hcross i j hi hj hli hlj)
    · rw [hrest i hi] at hli; rw [hold i hli] at he; exact absurd he.symm (hcross j i hj hi hlj hli)
    · rw [hrest i hi] at hli; rw [hrest j hj] at hlj; rw [hold i hli, hold j hlj] at he; exact hr.inj i j hli hlj he
  · rintro b ⟨id, hl, rfl⟩
    by_cases ht : t id
    · exact (hbr id ht hl).2.2.1
    · rw [hrest id ht] at hl; rw [hold id hl]; exact Nat.lt_of_lt_of_le (hr.size _ ⟨id, hl, rfl⟩) hsize
  · intro b hb; exact Nat.lt_of_lt_of_le (hr.fsize b hb) hsize
  · rintro b hb ⟨id, hl, rfl⟩
    by_cases ht : t id
    · obtain ⟨_, _, _, h1 | ⟨k, hk, hlk, hek⟩⟩ := hbr id ht hl
      · have := hr.fsize _ hb; omega
      · exact hr.apart _ hb ⟨k, hlk, hek⟩
    · rw [hrest id ht] at hl; rw [hold id hl] at hb; exact hr.apart _ hb ⟨id, hl, rfl⟩
  · intro b hb hno
    exact hsame b hb (fun id _ hl he => hno ⟨id, hl, he⟩)
  · rintro b ⟨id, hl, rfl⟩
    by_cases ht : t id
    · obtain ⟨_, _, _, h1 | ⟨k, hk, hlk, hek⟩⟩ := hbr id ht hl
      · exact .inr h1
      · exact .inl ⟨k, hlk, hek⟩
    · rw [hrest id ht] at hl; rw [hold id hl]; exact .inl ⟨id, hl, rfl⟩

/-- Only the counts of the world have moved. -/
theorem Step.quiet (hr : Rel H D w σ F) (hn : ∀ id, D id → D' id) (hh : w'.heap = w.heap) (hos : w'.os = w.os) (hout : w'.output = w.output) (htape : w'.tape = w.tape) :
    Step H D σ F w H D' σ F w' :=
  mkStep hr (fun _ => False) hn (fun _ _ => rfl) (by rw [hh]; exact Nat.le_refl _) (fun b _ _ => by rw [hh]) (fun b vs T fr h => ⟨vs, by rw [hh]; exact h, rfl⟩)
    (fun b r h => ⟨r.state, r.pending, by rw [hh]; exact h⟩) hos hout htape (fun _ _ => rfl) (fun _ h => h.elim) (fun _ _ h => h.elim)

def upd1 (H : Nat → Blk) (i : Nat) (b : Blk) : Nat → Blk := fun j => if j = i then b else H j
def updAll (H : Nat → Blk) : List (Nat × Blk) → Nat → Blk
  | [] => H
  | (i, b) :: r => updAll (upd1 H i b) r

theorem upd1_same (H : Nat → Blk) (i : Nat) (b : Blk) : upd1 H i b i = b := by simp [upd1]
theorem upd1_ne (H : Nat → Blk) (i : Nat) (b : Blk) {j : Nat} (h : j ≠ i) : upd1 H i b j = H j := by simp [upd1, h]

/-- A new block of the model is a new abstract one. -/
theorem Step.push (hr : Rel H D w σ F) (hn : ∀ id, D id → D' id) {nid : Nat} (hd : H nid = .dead) (hlt : D' nid) (hD : ¬ D nid) (o : Obj) (B : Blk) (esz : Nat)
    (hw : w' = { w with heap := w.heap.push o }) :
    let σ' : Sig := fun id => if id = nid then (w.heap.size, 0, esz) else σ id
    (BR w' σ' F D' nid B) → Step H D σ F w (upd1 H nid B) D' σ' F w' := by
  intro σ' hbr
  subst hw
  have hlow : ∀ (b : Nat), b < w.heap.size → (w.heap.push o)[b]? = w.heap[b]? := fun b hb => by
    rw [Array.getElem?_push]; simp [show b ≠ w.heap.size by omega]
  refine mkStep hr (fun id => id = nid) hn ?_ (by simp) (fun b hb _ => hlow b hb) ?_ ?_ rfl rfl rfl (fun id h => upd1_ne _ _ _ h) ?_ ?_
  · intro id hid
    show (if id = nid then _ else _) = _
    by_cases e : id = nid
    · subst e; exact absurd hid hD
    · simp [e]
  · intro b vs T fr h
    refine ⟨vs, ?_, rfl⟩
    show (w.heap.push o)[b]? = _
    rw [hlow b (getElem?_size h)]; exact h
  · intro b r h
    refine ⟨r.state, r.pending, ?_⟩
    show (w.heap.push o)[b]? = _
    rw [hlow b (getElem?_size h)]; exact h
  · rintro id rfl _
    refine ⟨hlt, by rw [upd1_same]; exact hbr, ?_, .inl ?_⟩
    · show (σ' id).1 < (w.heap.push o).size
      simp [σ']
    · show w.heap.size ≤ (σ' id).1
      simp [σ']
  · rintro i j rfl rfl _ _ _; rfl

end Go.Abs

/- Constants, operands, reading memory. -/
namespace Go.Abs

variable {H H' : Nat → Blk} {D D' : Nat → Prop} {σ σ' : Sig} {F F' : Nat → Prop} {w w' : World} {v : AV} {u : Value} {P : Program}

theorem VR.undef : VR w σ F D undefA undef := .tuple [] #[] rfl (fun i x u h => by simp at h)

theorem mapM_some {α β : Type} {f : α → Option β} : ∀ {l : List α} {r : List β}, l.mapM f = some r → r.length = l.length ∧ ∀ (i : Nat) x y, l[i]? = some x → r[i]? = some y → f x = some y
  | [], r, h => by
    simp at h; subst h; exact ⟨rfl, fun i x y h => by simp at h⟩
  | a :: l, r, h => by
    simp only [List.mapM_cons, Option.bind_eq_bind, Option.bind_eq_some_iff, Option.pure_def, Option.some.injEq] at h
    obtain ⟨b, hb, r', hr', rfl⟩ := h
    obtain ⟨h1, h2⟩ := mapM_some hr'
    refine ⟨by simp [h1], fun i x y hx hy => ?_⟩
    cases i with
    | zero => simp at hx hy; subst hx; subst hy; exact hb
    | succ i => exact h2 i x y (by simpa using hx) (by simpa using hy)

theorem isCell_const {k : Nat} {x : Value} {y : AV} : constA k x = some y → y.isCell = true → x.oneCell' = true := by
  intro h hy
  cases k with
  | zero => simp [constA] at h
  | succ k =>
    cases x with
    | agg cs =>
      simp only [constA] at h
      split at h
      · split at h
        · simp at h; subst h; simp [AV.isCell] at hy
        · simp at h
      · simp at h
    | tuple cs => simp only [constA] at h; split at h <;> simp at h; subst h; simp [AV.isCell] at hy
    | _ => rfl

theorem constA_sound : ∀ (k : Nat) (x : Value) (y : AV), constA k x = some y → VR w σ F D y x
  | 0, _, _, h => by simp [constA] at h
  | k + 1, x, y, h => by
    cases x with
    | bool b => simp [constA] at h; subst h; exact .bool b
    | int j n => simp [constA] at h; subst h; exact .int j n
    | string s => simp [constA] at h; subst h; exact .str s
    | pointer a => cases a <;> simp [constA] at h; subst h; exact .nilp
    | slice a l c =>
      unfold constA at h
      split at h <;> simp_all
      · subst h; exact .frz0 true none 0 (fun _ => rfl)
    | map r => cases r <;> simp [constA] at h; subst h; exact .nilm
    | nilFunc => simp [constA] at h; subst h; exact .nilf
    | nilIface => simp [constA] at h; subst h; exact .nili
    | agg cs =>
      simp only [constA] at h
      split at h
      · rename_i l hl
        split at h
        · rename_i hall
          simp at h; subst h
          obtain ⟨h1, h2⟩ := mapM_some hl
          refine .agg l cs (by simpa using h1.symm) (fun x hx => List.all_eq_true.1 hall x hx) (fun i x u hx hu => ?_)
          exact constA_sound k u x (h2 i u x (by simpa using hu) hx)
        · simp at h
      · simp at h
    | tuple cs =>
      simp only [constA] at h
      split at h <;> simp at h
      rename_i he
      subst h
      obtain rfl : cs = #[] := by simpa using he
      exact VR.undef
    | float _ _ => simp [constA] at h
    | complex _ _ _ => simp [constA] at h
    | chan _ => simp [constA] at h
    | func _ _ _ => simp [constA] at h
    | iface _ _ => simp [constA] at h

/-- The frame's temporaries read as the abstract ones. -/
structure RR (w : World) (σ : Sig) (F D : Nat → Prop) (R : Regs) (tmps : Array Value) : Prop where
  size : tmps.size = R.length
  val : ∀ (i : Nat) x u, R[i]? = some x → tmps[i]? = some u → VR w σ F D x u

/-- The listed package-level variables read as the environment says. -/
def GlobOk (E : Env) (gl : List Nat) (w : World) (F : Nat → Prop) : Prop := ∀ g ∈ gl, ∃ v, E.glob g = some v ∧ ∀ (σ : Sig) (D : Nat → Prop), VR w σ F D v (.pointer (some ⟨g, 0, none⟩))

theorem RR.get {R : Regs} {tmps : Array Value} (h : RR w σ F D R tmps) (t : Nat) : VR w σ F D (rget R t) (tmps.getD t undef) := by
  unfold rget
  by_cases ht : t < R.length
  · have h2 : t < tmps.size := by rw [h.size]; exact ht
    have := h.val t R[t] tmps[t] (by simp [ht]) (by simp [h2])
    simpa [List.getD, ht, Array.getD, h2] using this
  · have h2 : ¬ t < tmps.size := by rw [h.size]; exact ht
    simp [List.getD, ht, Array.getD, h2]
    exact VR.undef

theorem RR.put {R : Regs} {a : Act} (h : RR w σ F D R a.tmps) (d : Option Nat) (hv : VR w σ F D v u) : RR w σ F D (rput R d v) (a.put d u).tmps := by
  cases d with
  | none => exact h
  | some d =>
    refine ⟨by simp [Act.put, rput, rset, h.size], fun i x y hx hy => ?_⟩
    simp only [Act.put, rput, rset] at hx hy
    by_cases hi : d = i
    · subst hi
      rw [List.getElem?_set] at hx
      rw [Array.getElem?_setIfInBounds] at hy
      simp at hx hy
      obtain ⟨_, rfl⟩ := hx
      obtain ⟨_, rfl⟩ := hy
      exact hv
    · rw [List.getElem?_set_ne hi] at hx
      rw [Array.getElem?_setIfInBounds_ne hi] at hy
      exact h.val i x y hx hy

theorem RR.carry {R : Regs} {tmps : Array Value} (h : RR w σ F D R tmps) (hr : Rel H D w σ F) (hs : Step H D σ F w H' D' σ' F' w') : RR w' σ' F' D' R tmps :=
  ⟨h.size, fun i x u hx hu => (h.val i x u hx hu).step hr hs⟩

theorem GlobOk.carry {E : Env} {gl : List Nat} (h : GlobOk E gl w F) (hr : Rel H D w σ F) (hs : Step H D σ F w H' D' σ' F' w') : GlobOk E gl w' F' :=
  fun g hg => let ⟨v, h1, h2⟩ := h g hg; ⟨v, h1, fun σ2 D2 => (h2 σ2 D2).carry hs.ext.mono (fun b hb => hs.ext.frozen hr b hb) hs.ext.cells (fun _ _ => rfl) (fun _ h => h)⟩

theorem arg_sound {E : Env} {gl : List Nat} {R : Regs} {a : Act} (h : RR w σ F D R a.tmps) (hg : GlobOk E gl w F) {x : Operand} {y : Arg} (hy : argC gl x = some y) : VR w σ F D (arg E R y) (a.eval x) := by
  cases x with
  | tmp t => simp [argC] at hy; subst hy; exact h.get t
  | const c =>
    simp [argC] at hy
    obtain ⟨z, hz, rfl⟩ := hy
    exact constA_sound 8 c z hz
  | global g =>
    simp [argC] at hy
    obtain ⟨hm, rfl⟩ := hy
    obtain ⟨z, hz, hv⟩ := hg g hm
    simpa [arg, hz, Act.eval] using hv σ D
  | func f =>
    simp [argC] at hy; subst hy
    exact .func _ [] [] #[] #[] rfl rfl (fun i x u h => by simp at h) (fun i x u h => by simp at h)

/-! ### Types -/

theorem szT_run {t : TypeId} {s : Nat} (h : szT P t = some s) (w : World) : (sizeOf t).run P w = .ok s w := by
  unfold szT at h
  cases hi : P.info? t with
  | none => simp [hi] at h
  | some i =>
    simp [hi] at h
    have := run_typeInfo (w := w) hi
    simp [sizeOf, this, h]

theorem byT_run {t : TypeId} {s : Nat} (h : byT P t = some s) (w : World) : ∃ i, (typeInfo t).run P w = .ok i w ∧ i.bytes = s := by
  unfold byT at h
  cases hi : P.info? t with
  | none => simp [hi] at h
  | some i =>
    simp [hi] at h
    exact ⟨i, run_typeInfo (w := w) hi, h⟩

theorem zeT_run {t : TypeId} {z : AV} (h : zeT P t = some z) (w : World) : ∃ v, (zeroValue t).run P w = .ok v w ∧ constA 8 v = some z := by
  unfold zeT at h
  cases hi : P.info? t with
  | none => simp [hi] at h
  | some i =>
    simp [hi] at h
    cases hz : i.zero with
    | none => simp [hz] at h
    | some v =>
      simp [hz] at h
      refine ⟨v, ?_, h⟩
      have := run_typeInfo (w := w) hi
      simp [zeroValue, this, hz]

theorem agT_run {t : TypeId} {g : Bool} (h : agT P t = some g) (w : World) : (isAgg t).run P w = .ok g w := by
  unfold agT at h
  cases hu : P.underlying t with
  | none => simp [hu] at h
  | some d =>
    simp [hu] at h
    have := run_underlying hu w
    subst h
    cases d <;> simp [isAgg, this]

end Go.Abs

/- Operations that only compute. -/
namespace Go.Abs

variable {H H' : Nat → Blk} {D D' : Nat → Prop} {σ σ' : Sig} {F F' : Nat → Prop} {w w' : World} {v x y z : AV} {u ux uy : Value} {P : Program}

theorem bin_sound {op : BinOp} {t : TypeId} (hx : VR w σ F D x ux) (hy : VR w σ F D y uy) (h : bin op x y = some z) :
    ∃ r, (binOp op t ux uy).run P w = .ok r w ∧ VR w σ F D z r := by
  unfold bin at h
  split at h <;> (try simp at h) <;> cases hx <;> cases hy
  case h_1 => obtain ⟨h1, rfl⟩ := h; exact ⟨_, by simp [binOp, Op.shift, Int.not_lt.2 h1], .int _ _⟩
  case h_2 => obtain ⟨h1, rfl⟩ := h; exact ⟨_, by simp [binOp, Op.shift, Int.not_lt.2 h1], .int _ _⟩
  case h_3 => obtain ⟨rfl, rfl⟩ := h; exact ⟨_, by simp [binOp, Op.intArith], .int _ _⟩
  case h_4 => obtain ⟨rfl, rfl⟩ := h; exact ⟨_, by simp [binOp, Op.intArith], .int _ _⟩
  case h_5 => obtain ⟨rfl, rfl⟩ := h; exact ⟨_, by simp [binOp, Op.intArith], .int _ _⟩
  case h_6 => obtain ⟨⟨rfl, h2⟩, rfl⟩ := h; exact ⟨_, by simp [binOp, Op.intDiv, h2], .int _ _⟩
  case h_7 => obtain ⟨⟨rfl, h2⟩, rfl⟩ := h; exact ⟨_, by simp [binOp, Op.intDiv, h2], .int _ _⟩
  case h_8 => obtain ⟨rfl, rfl⟩ := h; exact ⟨_, by simp [binOp, Op.intBits], .int _ _⟩
  case h_9 => obtain ⟨rfl, rfl⟩ := h; exact ⟨_, by simp [binOp, Op.intBits], .int _ _⟩
  case h_10 => obtain ⟨rfl, rfl⟩ := h; exact ⟨_, by simp [binOp, Op.intBits], .int _ _⟩
  case h_11 => obtain ⟨rfl, rfl⟩ := h; exact ⟨_, by simp [binOp, Op.intBits], .int _ _⟩
  case h_12 => obtain ⟨rfl, rfl⟩ := h; exact ⟨_, by simp [binOp, Op.intCmp], .bool _⟩
  case h_13 => obtain ⟨rfl, rfl⟩ := h; exact ⟨_, by simp [binOp, Op.intCmp], .bool _⟩
  case h_14 => obtain ⟨rfl, rfl⟩ := h; exact ⟨_, by simp [binOp, Op.intCmp], .bool _⟩
  case h_15 => obtain ⟨rfl, rfl⟩ := h; exact ⟨_, by simp [binOp, Op.intCmp], .bool _⟩
  case h_16 =>
    obtain ⟨h1, rfl⟩ := h
    refine ⟨_, ?_, .str _⟩
    simp only [binOp, Op.stringOp]
    rw [if_neg (by simp [IntKind.max, IntKind.signed, IntKind.bits]; omega)]; rfl
  case h_17 => subst h; exact ⟨_, by simp [binOp, Op.stringOp], .bool _⟩
  case h_18 => subst h; exact ⟨_, by simp [binOp, Op.stringOp], .bool _⟩
  case h_19 => subst h; exact ⟨_, by simp [binOp, Op.stringOp], .bool _⟩
  case h_20 => subst h; exact ⟨_, by simp [binOp, Op.stringOp], .bool _⟩

theorem un_sound {op : UnOp} (hx : VR w σ F D x ux) (h : un op x = some z) : ∃ r, (Op.unary op ux).run P w = .ok r w ∧ VR w σ F D z r := by
  unfold un at h
  split at h <;> (try simp at h) <;> cases hx <;> subst h
  · exact ⟨_, by simp [Op.unary, Op.intArith], .int _ _⟩
  · exact ⟨_, by simp [Op.unary, Op.intBits], .int _ _⟩
  · exact ⟨_, by simp [Op.unary], .bool _⟩

/-- A bound of a slice expression. -/
theorem bound_sound {a : Option AV} {b : Option Value} {d most h : Nat} {code : BoundsCode} (hab : ∀ x, a = some x → ∃ u, b = some u ∧ VR w σ F D x u) (hn : a = none → b = none) (hh : bound a d most = some h) :
    (a = none ∧ h = d ∧ b = none) ∨ ∃ u, b = some u ∧ (∀ cap, most ≤ cap → (Instr.sliceBound u cap code).run P w = .ok h w) ∧ h ≤ most := by
  unfold bound at hh
  split at hh
  · simp at hh; exact .inl ⟨rfl, hh.symm, hn rfl⟩
  · rename_i k i
    split at hh <;> simp at hh
    rename_i hi
    subst hh
    obtain ⟨u, rfl, hu⟩ := hab _ rfl
    cases hu
    refine .inr ⟨_, rfl, fun cap hc => ?_, by omega⟩
    simp [Instr.sliceBound, asIntOf, show 0 ≤ i ∧ i ≤ (cap : Int) by omega]
  · simp at hh

theorem asIntOf_run {k : IntKind} {i : Int} : (asIntOf (.int k i)).run P w = .ok (k, i) w := rfl

theorem addr_add (b o n : Nat) : (⟨b, o, none⟩ : Addr).add n = ⟨b, o + n, none⟩ := by
  unfold Addr.add; split <;> simp_all

end Go.Abs

/- Operations that read memory. -/
namespace Go.Abs

variable {H H' : Nat → Blk} {D D' : Nat → Prop} {σ σ' : Sig} {F F' : Nat → Prop} {w w' : World} {v x y z : AV} {u ux uy : Value} {P : Program} {A : Heap}

theorem cell_of_heap {b o : Nat} {vs : Array Value} {T : TypeId} {fr : Nat × Nat} (h : w.heap[b]? = some (.cells vs T fr)) : w.cell? ⟨b, o, none⟩ = vs[o]? := by
  simp [World.cell?, h]

theorem spot_sound {e : AV} {off : Nat} (hr : Rel H D w σ F) (hA : ∀ id, hget A id = H id) (hp : VR w σ F D x ux) (hs : spotOf A x = some (e, off)) :
    ∃ b o, ux = .pointer (some ⟨b, o, none⟩) ∧ ∀ (j : Nat) y, e.cells[off + j]? = some y → y.isCell = true ∧ ∃ uy, w.cell? ⟨b, o + j, none⟩ = some uy ∧ VR w σ F D y uy := by
  cases hp with
  | ptr id i off' hn =>
    simp only [spotOf] at hs
    rw [hA id] at hs
    have hb := hr.br id
    cases hB : H id with
    | cells esz es =>
      rw [hB] at hs hb
      simp only [Option.map_eq_some_iff, Prod.mk.injEq] at hs
      obtain ⟨e', he, rfl, rfl⟩ := hs
      obtain ⟨h1, h2, h2', vs, T, h3, h4⟩ := hb
      refine ⟨_, _, rfl, fun j y hy => ⟨h2' e' (List.mem_of_getElem? he) y (List.mem_of_getElem? hy), ?_⟩⟩
      obtain ⟨uy, h5, h6⟩ := h4 i e' (off' + j) y he hy
      refine ⟨uy, ?_, h6⟩
      rw [cell_of_heap h3, h1]
      rw [show σ.base id + i * esz + off' + j = σ.base id + i * esz + (off' + j) by omega]
      exact h5
    | _ => rw [hB] at hs; simp at hs
  | fp es i off' b base esz f hFb hs' hp' hcell hm hv =>
    simp only [spotOf, Option.map_eq_some_iff, Prod.mk.injEq] at hs
    obtain ⟨e', he, rfl, rfl⟩ := hs
    refine ⟨_, _, rfl, fun j y hy => ⟨hcell e' (List.mem_of_getElem? he) y (List.mem_of_getElem? hy), f i (off' + j), ?_, hv i e' (off' + j) y he hy⟩⟩
    rw [show base + i * esz + off' + j = base + i * esz + (off' + j) by omega]
    exact hm i e' (off' + j) y he hy
  | _ => simp [spotOf] at hs

theorem ld_sound {t : TypeId} {g : Bool} {n : Nat} (hr : Rel H D w σ F) (hA : ∀ id, hget A id = H id) (hp : VR w σ F D x ux) (hg : agT P t = some g) (hn : szT P t = some n) (h : ld A g n x = some z) :
    ∃ b o, ux = .pointer (some ⟨b, o, none⟩) ∧ ∃ r, (loadVar t ⟨b, o, none⟩).run P w = .ok r w ∧ VR w σ F D z r := by
  unfold ld at h
  split at h
  · rename_i e off hsp
    obtain ⟨b, o, rfl, hc⟩ := spot_sound hr hA hp hsp
    refine ⟨b, o, rfl, ?_⟩
    unfold cut at h
    cases g with
    | true =>
      simp only [if_true] at h
      split at h <;> simp at h
      rename_i hle
      subst h
      have hf : ∀ j : Nat, ∃ y, j < n → w.cell? ⟨b, o + j, none⟩ = some y ∧ ∀ q, e.cells[off + j]? = some q → VR w σ F D q y := by
        intro j
        by_cases hj : j < n
        · have hlt : off + j < e.cells.length := by omega
          obtain ⟨_, y, h1, h2⟩ := hc j e.cells[off + j] (by simp [hlt])
          exact ⟨y, fun _ => ⟨h1, fun q hq => by simp [hlt] at hq; subst hq; exact h2⟩⟩
        · exact ⟨Go.undef, fun h => absurd h hj⟩
      obtain ⟨f, hf⟩ := Classical.axiomOfChoice hf
      refine ⟨.agg ((List.range n).map f).toArray, ?_, ?_⟩
      · simp only [loadVar, Sem.run_bind, agT_run hg w, Result.andThen_ok, if_true, szT_run hn w]
        rw [run_loadCells w ⟨b, o, none⟩ n f (fun j hj => by rw [addr_add]; exact (hf j hj).1)]
        simp
      · refine .agg _ _ (by simp; omega) (fun q hq => ?_) (fun i q uq hq hu => ?_)
        · obtain ⟨i, hi⟩ := List.getElem?_of_mem hq
          rw [List.getElem?_take] at hi
          split at hi <;> simp at hi
          rename_i hin
          exact (hc i q hi).1
        · rw [List.getElem?_take] at hq
          split at hq <;> simp at hq
          rename_i hin
          simp [hin] at hu
          subst hu
          exact (hf i hin).2 q hq
    | false =>
      simp at h
      obtain ⟨_, y, h1, h2⟩ := hc 0 z (by simpa using h)
      refine ⟨y, ?_, h2⟩
      simp only [loadVar, Sem.run_bind, agT_run hg w, Result.andThen_ok]
      simp at h1
      simp [h1]
  · simp at h

theorem part_sound {t : TypeId} {g : Bool} {n off : Nat} {cs : List AV} {us : Array Value} (hx : VR w σ F D (.agg cs) (.agg us)) (hg : agT P t = some g) (hn : szT P t = some n) (h : cut g n off cs = some z) :
    ∃ r, (part t us off).run P w = .ok r w ∧ VR w σ F D z r := by
  cases hx with
  | agg _ _ hl hcell hv =>
  unfold cut at h
  cases g with
  | true =>
    simp only [if_true] at h
    split at h <;> simp at h
    rename_i hle
    subst h
    refine ⟨.agg (us.extract off (off + n)), ?_, ?_⟩
    · simp [part, agT_run hg w, szT_run hn w]
    · refine .agg _ _ (by simp; omega) (fun q hq => hcell q (List.mem_of_mem_drop (List.mem_of_mem_take hq))) (fun i q uq hq hu => ?_)
      rw [List.getElem?_take] at hq
      split at hq <;> simp at hq
      refine hv (off + i) q uq hq ?_
      rw [Array.getElem?_extract] at hu
      split at hu <;> simp_all
  | false =>
    simp at h
    have hlt : off < us.size := by rw [hl]; exact (List.getElem?_eq_some_iff.1 h).1
    refine ⟨us[off], ?_, hv off z us[off] h (by simp [hlt])⟩
    simp [part, agT_run hg w, hlt]

/-- The cells of a value. -/
theorem cells_sound (hx : VR w σ F D x ux) (hc : x.cells.all AV.isCell = true) : ux.cells.size = x.cells.length ∧ (∀ (i : Nat) q uq, x.cells[i]? = some q → ux.cells[i]? = some uq → VR w σ F D q uq) ∧ (∀ uq ∈ ux.cells.toList, uq.oneCell' = true) := by
  have one : ∀ {q : AV} {uq : Value}, VR w σ F D q uq → q.isCell = true → uq.oneCell' = true := by
    intro q uq h hq
    cases h <;> first | rfl | (simp [AV.isCell] at hq)
  cases hx with
  | agg cs us hl hcell hv =>
    refine ⟨hl, hv, fun uq hu => ?_⟩
    obtain ⟨i, hi⟩ := List.getElem?_of_mem hu
    have hi' : us[i]? = some uq := by simpa [Value.cells] using hi
    have hlt : i < cs.length := by rw [← hl]; exact getElem?_size hi'
    exact one (hv i cs[i] uq (by simp [hlt]) hi') (hcell _ (List.getElem_mem hlt))
  | tuple cs us hl hv => simp [AV.cells, AV.isCell] at hc
  | _ =>
    refine ⟨rfl, fun i q uq hq hu => ?_, fun uq hu => ?_⟩
    · cases i with
      | zero =>
        simp [AV.cells, Value.cells] at hq hu; subst hq; subst hu
        first | exact .bool _ | exact .int _ _ | exact .str _ | assumption | (constructor <;> assumption)
      | succ i => simp [AV.cells] at hq
    · simp [Value.cells] at hu; subst hu; rfl

end Go.Abs

/- New blocks, and blocks that are written, as steps. -/
namespace Go.Abs

variable {H H' : Nat → Blk} {D D' : Nat → Prop} {σ σ' : Sig} {F F' : Nat → Prop} {w w' : World} {v x y z : AV} {u ux uy : Value} {P : Program} {A : Heap}

/-- The place of a new block. -/
def Sig.with (σ : Sig) (nid b base esz : Nat) : Sig := fun id => if id = nid then (b, base, esz) else σ id

theorem Sig.with_ne {nid b base esz id : Nat} (h : id ≠ nid) : σ.with nid b base esz id = σ id := by simp [Sig.with, h]
theorem Sig.with_blk {nid b base esz : Nat} : (σ.with nid b base esz).blk nid = b := by simp [Sig.with, Sig.blk]
theorem Sig.with_base {nid b base esz : Nat} : (σ.with nid b base esz).base nid = base := by simp [Sig.with, Sig.base]
theorem Sig.with_esz {nid b base esz : Nat} : (σ.with nid b base esz).esz nid = esz := by simp [Sig.with, Sig.esz]

/-- A row of cells that holds elements. -/
def Holds (w : World) (σ : Sig) (F D : Nat → Prop) (es : List AV) (vs : Array Value) (base esz : Nat) : Prop :=
  ∀ (i : Nat) e (j : Nat) x, es[i]? = some e → e.cells[j]? = some x → ∃ u, vs[base + i * esz + j]? = some u ∧ VR w σ F D x u

def Elems (es : List AV) (esz : Nat) : Prop := (∀ e ∈ es, e.cells.length = esz) ∧ (∀ e ∈ es, ∀ x ∈ e.cells, x.isCell = true)

/-- A new row. -/
theorem Step.row (hr : Rel H D w σ F) (hn : ∀ id, D id → D' id) {nid : Nat} (hd : H nid = .dead) (hlt : D' nid) (hD : ¬ D nid) (T : TypeId) {es : List AV} {vs : Array Value} {esz : Nat}
    (he : Elems es esz) (hv : Holds w σ F D es vs 0 esz) :
    Step H D σ F w (upd1 H nid (.cells esz es)) D' (σ.with nid w.heap.size 0 esz) F { w with heap := w.heap.push (.cells vs T) } := by
  have hc : ∀ (b : Nat) (vs1 : Array Value) (T1 : TypeId) (fr : Nat × Nat), w.heap[b]? = some (Obj.cells vs1 T1 fr) → ∃ vs', (w.heap.push (.cells vs T))[b]? = some (Obj.cells vs' T1 fr) ∧ vs'.size = vs1.size := by
    intro b vs1 T1 fr h
    refine ⟨vs1, ?_, rfl⟩
    rw [Array.getElem?_push]; simp [show b ≠ w.heap.size by have := getElem?_size h; omega, h]
  refine Step.push (esz := esz) hr hn hd hlt hD (.cells vs T) _ rfl ?_
  refine ⟨Sig.with_esz (b := w.heap.size) (base := 0) (σ := σ), he.1, he.2, vs, T, ?_, ?_⟩
  · show (w.heap.push _)[(σ.with nid w.heap.size 0 esz).blk nid]? = _
    rw [Sig.with_blk]; simp
  · intro i e j x hi hj
    obtain ⟨u, h1, h2⟩ := hv i e j x hi hj
    refine ⟨u, ?_, h2.carry (fun _ h => h) (fun b hb => ?_) hc (fun id hid => ?_) hn⟩
    · show vs[(σ.with nid w.heap.size 0 esz).base nid + _ + _]? = _
      rw [Sig.with_base]; exact h1
    · show (w.heap.push _)[b]? = _
      rw [Array.getElem?_push]; simp [show b ≠ w.heap.size by have := hr.fsize b hb; omega]
    · show σ.with nid w.heap.size 0 esz id = _
      exact Sig.with_ne (fun h => hD (h ▸ hid))

theorem VR.own_new {nid : Nat} (hlt : D' nid) {T : TypeId} {vs : Array Value} {esz len cap : Nat} {clip : Bool} (hc : len ≤ cap) (hcl : clip = true → cap = len) (hroom : cap * esz ≤ vs.size) :
    VR { w with heap := w.heap.push (.cells vs T) } (σ.with nid w.heap.size 0 esz) F D' (.own nid 0 len clip) (.slice (some ⟨w.heap.size, 0, none⟩) len cap) := by
  refine .own nid 0 len cap clip _ hlt hc hcl (.inr ?_) (.inr ⟨vs, T, (0, 0), ?_, ?_⟩)
  · rw [Sig.with_blk, Sig.with_base]; simp
  · rw [Sig.with_blk]; simp
  · rw [Sig.with_base, Sig.with_esz]; simpa using hroom

theorem VR.ptr_new {nid : Nat} (hlt : D' nid) {T : TypeId} {vs : Array Value} {esz : Nat} :
    VR { w with heap := w.heap.push (.cells vs T) } (σ.with nid w.heap.size 0 esz) F D' (.ptr nid 0 0) (.pointer (some ⟨w.heap.size, 0, none⟩)) := by
  have := VR.ptr (w := { w with heap := w.heap.push (.cells vs T) }) (σ := σ.with nid w.heap.size 0 esz) (F := F) (D := D') nid 0 0 hlt
  rw [Sig.with_blk, Sig.with_base] at this
  simpa using this

theorem heap_setRow_ne {g b : Nat} {cs : Array Value} (h : b ≠ g) : (w.setRow g cs).heap[b]? = w.heap[b]? := by
  unfold World.setRow
  simp only [Array.getElem?_modify, if_neg (Ne.symm h)]

/-- An owned row with other cells. -/
theorem Step.setRow (hr : Rel H D w σ F) {id : Nat} {esz : Nat} {es : List AV} (hb : H id = .cells esz es) {old vs : Array Value} {T : TypeId} (hw : w.heap[σ.blk id]? = some (.cells old T (0, 0)))
    (hsz : vs.size = old.size) {es' : List AV} (he : Elems es' esz) (hv : Holds w σ F D es' vs (σ.base id) esz) :
    Step H D σ F w (upd1 H id (.cells esz es')) D σ F (w.setRow (σ.blk id) vs) := by
  have hl : (H id).live = true := by rw [hb]; rfl
  have hset := setRow_heap w (σ.blk id) old vs T (0, 0) hw
  have hFne : ∀ b, F b → b ≠ σ.blk id := fun b hb' e => hr.apart b hb' ⟨id, hl, e.symm⟩
  have hc : ∀ (b : Nat) (vs1 : Array Value) (T1 : TypeId) (fr : Nat × Nat), w.heap[b]? = some (Obj.cells vs1 T1 fr) → ∃ vs', (w.setRow (σ.blk id) vs).heap[b]? = some (Obj.cells vs' T1 fr) ∧ vs'.size = vs1.size := by
    intro b vs1 T1 fr h
    by_cases e : b = σ.blk id
    · subst e; rw [hw] at h; cases h; exact ⟨vs, hset, hsz⟩
    · exact ⟨vs1, by rw [heap_setRow_ne e]; exact h, rfl⟩
  refine mkStep hr (fun i => i = id) (fun _ h => h) (fun _ _ => rfl) (by simp [World.setRow]) (fun b _ hne => heap_setRow_ne (fun e => hne id rfl hl e.symm)) hc ?_ rfl rfl rfl
    (fun i h => upd1_ne _ _ _ h) ?_ (by rintro i j rfl rfl _ _ _; rfl)
  · intro b r h
    refine ⟨r.state, r.pending, ?_⟩
    by_cases e : b = σ.blk id
    · subst e; rw [hw] at h; cases h
    · rw [heap_setRow_ne e]; exact h
  · rintro i rfl _
    have hbr := hr.br i
    rw [hb] at hbr
    refine ⟨hr.dom i hl, ?_, ?_, .inr ⟨i, rfl, hl, rfl⟩⟩
    · rw [upd1_same]
      refine ⟨hbr.1, he.1, he.2, vs, T, hset, fun k e j x hk hj => ?_⟩
      obtain ⟨u, h1, h2⟩ := hv k e j x hk hj
      exact ⟨u, h1, h2.carry (fun _ h => h) (fun b hb' => heap_setRow_ne (hFne b hb')) hc (fun _ _ => rfl) (fun _ h => h)⟩
    · simpa [World.setRow] using hr.size _ ⟨i, hl, rfl⟩

/-- An owned block of another kind than cells with other contents. -/
theorem Step.setObj (hr : Rel H D w σ F) {id : Nat} (hl : (H id).live = true) {o o' : Obj} (hw : w.heap[σ.blk id]? = some o) (hnc : ∀ c T fr, o ≠ .cells c T fr)
    (hlo : ∀ r, o = .loop r → ∃ st p, o' = .loop { r with state := st, pending := p }) {B : Blk}
    (hbr : BR { w with heap := w.heap.setIfInBounds (σ.blk id) o' } σ F D id B) :
    Step H D σ F w (upd1 H id B) D σ F { w with heap := w.heap.setIfInBounds (σ.blk id) o' } := by
  have hne : ∀ {b : Nat}, b ≠ σ.blk id → (w.heap.setIfInBounds (σ.blk id) o')[b]? = w.heap[b]? := fun h => Array.getElem?_setIfInBounds_ne (Ne.symm h)
  have hlt : σ.blk id < w.heap.size := getElem?_size hw
  have heq : (w.heap.setIfInBounds (σ.blk id) o')[σ.blk id]? = some o' := by simp [hlt]
  refine mkStep hr (fun i => i = id) (fun _ h => h) (fun _ _ => rfl) (by simp) (fun b _ h => hne (fun e => h id rfl hl e.symm)) ?_ ?_ rfl rfl rfl
    (fun i h => upd1_ne _ _ _ h) ?_ (by rintro i j rfl rfl _ _ _; rfl)
  · intro b vs1 T1 fr h
    by_cases e : b = σ.blk id
    · subst e; rw [hw] at h; cases h; exact absurd rfl (hnc _ _ _)
    · exact ⟨vs1, by show (w.heap.setIfInBounds _ _)[b]? = _; rw [hne e]; exact h, rfl⟩
  · intro b r h
    by_cases e : b = σ.blk id
    · subst e
      rw [hw] at h; cases h
      obtain ⟨st, p, rfl⟩ := hlo r rfl
      exact ⟨st, p, heq⟩
    · exact ⟨r.state, r.pending, by show (w.heap.setIfInBounds _ _)[b]? = _; rw [hne e]; exact h⟩
  · rintro i rfl _
    exact ⟨hr.dom i hl, by rw [upd1_same]; exact hbr, by simpa using hlt, .inr ⟨i, rfl, hl, rfl⟩⟩

/-- An owned row that goes on under a new number, the old one given up: what is written lies behind its elements, or on them. -/
theorem Step.over (hr : Rel H D w σ F) (hn : ∀ id, D id → D' id) {nid id : Nat} (hd : H nid = .dead) (hlt : D' nid) (hD : ¬ D nid) {esz : Nat} {es : List AV} (hb : H id = .cells esz es) {old vs : Array Value} {T : TypeId}
    (hw : w.heap[σ.blk id]? = some (.cells old T (0, 0))) (hsz : vs.size = old.size) {es' : List AV} {base : Nat} (he : Elems es' esz) (hv : Holds w σ F D es' vs base esz) :
    Step H D σ F w (upd1 (upd1 H id .dead) nid (.cells esz es')) D' (σ.with nid (σ.blk id) base esz) F (w.setRow (σ.blk id) vs) := by
  have hl : (H id).live = true := by rw [hb]; rfl
  have hne : nid ≠ id := fun e => by rw [e, hb] at hd; cases hd
  have hset := setRow_heap w (σ.blk id) old vs T (0, 0) hw
  have hFne : ∀ b, F b → b ≠ σ.blk id := fun b hb' e => hr.apart b hb' ⟨id, hl, e.symm⟩
  have hc : ∀ (b : Nat) (vs1 : Array Value) (T1 : TypeId) (fr : Nat × Nat), w.heap[b]? = some (Obj.cells vs1 T1 fr) → ∃ vs', (w.setRow (σ.blk id) vs).heap[b]? = some (Obj.cells vs' T1 fr) ∧ vs'.size = vs1.size := by
    intro b vs1 T1 fr h
    by_cases e : b = σ.blk id
    · subst e; rw [hw] at h; cases h; exact ⟨vs, hset, hsz⟩
    · exact ⟨vs1, by rw [heap_setRow_ne e]; exact h, rfl⟩
  have hσ : ∀ i, D i → σ.with nid (σ.blk id) base esz i = σ i := fun i hi => Sig.with_ne (fun h => hD (h ▸ hi))
  have hdead : ∀ i, (upd1 (upd1 H id .dead) nid (.cells esz es') i).live = true → (i = nid ∨ i = id) → i = nid := by
    rintro i hi (h | h)
    · exact h
    · subst h; rw [upd1_ne _ _ _ (Ne.symm hne), upd1_same] at hi; cases hi
  refine mkStep hr (fun i => i = nid ∨ i = id) hn hσ (by simp [World.setRow]) (fun b _ h => heap_setRow_ne (fun e => h id (.inr rfl) hl e.symm)) hc ?_ rfl rfl rfl ?_ ?_ ?_
  · intro b r h
    refine ⟨r.state, r.pending, ?_⟩
    by_cases e : b = σ.blk id
    · subst e; rw [hw] at h; cases h
    · rw [heap_setRow_ne e]; exact h
  · intro i h
    rw [upd1_ne _ _ _ (fun e => h (.inl e)), upd1_ne _ _ _ (fun e => h (.inr e))]
  · intro i hi hli
    obtain rfl := hdead i hli hi
    refine ⟨hlt, ?_, ?_, .inr ⟨id, .inr rfl, hl, by rw [Sig.with_blk]⟩⟩
    · rw [upd1_same]
      refine ⟨Sig.with_esz, he.1, he.2, vs, T, by rw [Sig.with_blk]; exact hset, fun k e j x hk hj => ?_⟩
      obtain ⟨u, h1, h2⟩ := hv k e j x hk hj
      exact ⟨u, by rw [Sig.with_base]; exact h1, h2.carry (fun _ h => h) (fun b hb' => heap_setRow_ne (hFne b hb')) hc hσ hn⟩
    · rw [Sig.with_blk]; simpa [World.setRow] using hr.size _ ⟨id, hl, rfl⟩
  · intro i j hi hj hli hlj _
    rw [hdead i hli hi, hdead j hlj hj]

end Go.Abs

/- Operations that make or write memory. -/
namespace Go.Abs

variable {H H' : Nat → Blk} {D D' : Nat → Prop} {σ σ' : Sig} {F F' : Nat → Prop} {w w' : World} {v x y z : AV} {u ux uy : Value} {P : Program} {A : Heap}

/-- Two rows of one width that meet are one. -/
theorem row_apart {i k j esz : Nat} (hj : j < esz) (h1 : k * esz ≤ i * esz + j) (h2 : i * esz + j < k * esz + esz) : i = k := by
  have ha : k ≤ i := by
    rcases Nat.lt_or_ge i k with h | h
    · have : (i + 1) * esz ≤ k * esz := Nat.mul_le_mul_right _ h
      rw [Nat.add_mul] at this; omega
    · exact h
  have hb : i ≤ k := by
    rcases Nat.lt_or_ge k i with h | h
    · have : (k + 1) * esz ≤ i * esz := Nat.mul_le_mul_right _ h
      rw [Nat.add_mul] at this; omega
    · exact h
  omega

/-- Cells read as abstract ones, one by one. -/
def Cells (w : World) (σ : Sig) (F D : Nat → Prop) (cs : List AV) (us : Array Value) : Prop :=
  us.size = cs.length ∧ ∀ (i : Nat) x u, cs[i]? = some x → us[i]? = some u → VR w σ F D x u

theorem getElem?_foldl_set (off : Nat) : ∀ (l : List Value) (k : Nat) (us : Array Value) (i : Nat), off + k + l.length ≤ us.size →
    ((l.zipIdx k).foldl (fun cs p => cs.setIfInBounds (off + p.2) p.1) us)[i]? = (if off + k ≤ i ∧ i < off + k + l.length then l[i - (off + k)]? else us[i]?)
  | [], k, us, i, _ => by simp; intro h1 h2; omega
  | a :: l, k, us, i, h => by
    simp only [List.zipIdx_cons, List.foldl_cons]
    simp only [List.length_cons] at h
    rw [getElem?_foldl_set off l (k + 1) _ i (by simp; omega)]
    by_cases h1 : off + (k + 1) ≤ i ∧ i < off + (k + 1) + l.length
    · rw [if_pos h1, if_pos (by simp; omega)]
      rw [show i - (off + k) = (i - (off + (k + 1))) + 1 by omega, List.getElem?_cons_succ]
    · rw [if_neg h1]
      by_cases h2 : i = off + k
      · subst h2
        rw [if_pos (by simp)]
        simp [show off + k < us.size by omega]
      · rw [if_neg (by simp; omega), Array.getElem?_setIfInBounds_ne (by omega)]

theorem size_foldl_set (off : Nat) : ∀ (l : List Value) (k : Nat) (us : Array Value), ((l.zipIdx k).foldl (fun cs p => cs.setIfInBounds (off + p.2) p.1) us).size = us.size
  | [], _, _ => rfl
  | a :: l, k, us => by simp only [List.zipIdx_cons, List.foldl_cons]; rw [size_foldl_set off l]; simp

theorem foldl_zipIdx (off : Nat) (vs us : Array Value) :
    vs.zipIdx.foldl (fun cs (c, j) => cs.setIfInBounds (off + j) c) us = (vs.toList.zipIdx 0).foldl (fun cs p => cs.setIfInBounds (off + p.2) p.1) us := by
  rw [← Array.foldl_toList, Array.toList_zipIdx]

theorem getElem?_overlay (cs x : List AV) (off i : Nat) (h : off + x.length ≤ cs.length) : (overlay cs off x)[i]? = (if off ≤ i ∧ i < off + x.length then x[i - off]? else cs[i]?) := by
  unfold overlay
  by_cases h1 : i < off
  · rw [if_neg (by omega), List.append_assoc, List.getElem?_append_left (by simp; omega), List.getElem?_take_of_lt h1]
  · by_cases h2 : i < off + x.length
    · rw [if_pos ⟨by omega, h2⟩, List.append_assoc, List.getElem?_append_right (by simp; omega), List.getElem?_append_left (by simp; omega)]
      simp [show min off cs.length = off by omega]
    · rw [if_neg (by omega), List.getElem?_append_right (by simp; omega), List.getElem?_drop]
      congr 1
      simp; omega

theorem length_overlay (cs x : List AV) (off : Nat) (h : off + x.length ≤ cs.length) : (overlay cs off x).length = cs.length := by
  unfold overlay; simp; omega

/-- 'fill', of struct and array values. -/
theorem fillA_sound {place : Nat → Option (Nat × Nat)} : ∀ (ps : List (Nat × Nat × AV)) (qs : List (Nat × Value)) (cs cs' : List AV) (us : Array Value),
    Cells w σ F D cs us → (∀ x ∈ cs, x.isCell = true) → ps.length = qs.length → (∀ (i : Nat) p q, ps[i]? = some p → qs[i]? = some q → place q.1 = some (p.1, p.2.1) ∧ VR w σ F D p.2.2 q.2) →
    fillA cs ps = some cs' → ∃ us', Instr.fill place us qs = some us' ∧ Cells w σ F D cs' us' ∧ (∀ x ∈ cs', x.isCell = true)
  | [], [], cs, cs', us, hc, hcell, _, _, h => by simp [fillA] at h; subst h; exact ⟨us, rfl, hc, hcell⟩
  | [], _ :: _, _, _, _, _, _, hl, _, _ => by simp at hl
  | _ :: _, [], _, _, _, _, _, hl, _, _ => by simp at hl
  | (off, size, x) :: ps, (k, u) :: qs, cs, cs', us, hc, hcell, hl, hp, h => by
    obtain ⟨h1, h2⟩ := hp 0 _ _ rfl rfl
    simp only at h1 h2
    simp only [fillA] at h
    split at h <;> (try (simp at h; done))
    rename_i hcond
    obtain ⟨hs, hle, hall⟩ := hcond
    obtain ⟨c1, c2, _⟩ := cells_sound h2 hall
    have hsz : ¬ (u.cells.size ≠ size || off + u.cells.size > us.size) = true := by simp [hc.1]; omega
    have hlist : ∀ (i : Nat), (u.cells.zipIdx.foldl (fun cs (c, j) => cs.setIfInBounds (off + j) c) us)[i]? = (if off ≤ i ∧ i < off + u.cells.size then u.cells[i - off]? else us[i]?) := by
      intro i
      rw [foldl_zipIdx, getElem?_foldl_set off _ 0 us i (by simp [hc.1]; omega)]
      simp
    obtain ⟨us', h3, h4⟩ := fillA_sound ps qs (overlay cs off x.cells) cs' (u.cells.zipIdx.foldl (fun cs (c, j) => cs.setIfInBounds (off + j) c) us)
      ⟨by rw [foldl_zipIdx, size_foldl_set, length_overlay _ _ _ (by omega)]; exact hc.1, fun i a b ha hb => by
        rw [getElem?_overlay _ _ _ _ (by omega)] at ha
        rw [hlist i, c1] at hb
        split at ha
        · rename_i hi; rw [if_pos hi] at hb; exact c2 _ a b ha hb
        · rename_i hi; rw [if_neg hi] at hb; exact hc.2 i a b ha hb⟩
      (fun a ha => by
        simp only [overlay, List.mem_append] at ha
        rcases ha with (ha | ha) | ha
        · exact hcell a (List.mem_of_mem_take ha)
        · exact List.all_eq_true.1 hall a ha
        · exact hcell a (List.mem_of_mem_drop ha))
      (by simpa using hl) (fun i p q hp1 hq1 => hp (i + 1) p q (by simpa using hp1) (by simpa using hq1)) h
    refine ⟨us', ?_, h4⟩
    simp only [Instr.fill, h1]
    rw [if_neg hsz]
    exact h3

/-- 'fill', of the elements of a new slice. -/
theorem fillS_sound {esz : Nat} : ∀ (ps : List (Nat × AV)) (qs : List (Nat × Value)) (es es' : List AV) (us : Array Value),
    Holds w σ F D es us 0 esz → Elems es esz → us.size = es.length * esz → ps.length = qs.length → (∀ (i : Nat) p q, ps[i]? = some p → qs[i]? = some q → q.1 = p.1 ∧ VR w σ F D p.2 q.2) →
    fillS esz es ps = some es' → ∃ us', Instr.fill (fun i => some (i * esz, esz)) us qs = some us' ∧ Holds w σ F D es' us' 0 esz ∧ Elems es' esz ∧ us'.size = es'.length * esz ∧ es'.length = es.length
  | [], [], es, es', us, hh, he, hs, _, _, h => by simp [fillS] at h; subst h; exact ⟨us, rfl, hh, he, hs, rfl⟩
  | [], _ :: _, _, _, _, _, _, _, hl, _, _ => by simp at hl
  | _ :: _, [], _, _, _, _, _, _, hl, _, _ => by simp at hl
  | (i0, x) :: ps, (k, u) :: qs, es, es', us, hh, he, hs, hl, hp, h => by
    obtain ⟨h1, h2⟩ := hp 0 _ _ rfl rfl
    simp only at h1 h2
    subst h1
    simp only [fillS] at h
    split at h <;> (try (simp at h; done))
    rename_i hcond
    obtain ⟨hxl, hlt, hall⟩ := hcond
    obtain ⟨c1, c2, _⟩ := cells_sound h2 hall
    have hle : k * esz + esz ≤ us.size := by rw [hs]; calc k * esz + esz = (k + 1) * esz := by rw [Nat.add_mul]; omega
      _ ≤ es.length * esz := Nat.mul_le_mul_right _ hlt
    have hsz : ¬ (u.cells.size ≠ esz || k * esz + u.cells.size > us.size) = true := by simp; omega
    have hlist : ∀ (i : Nat), (u.cells.zipIdx.foldl (fun cs (c, j) => cs.setIfInBounds (k * esz + j) c) us)[i]? = (if k * esz ≤ i ∧ i < k * esz + u.cells.size then u.cells[i - k * esz]? else us[i]?) := by
      intro i
      rw [foldl_zipIdx, getElem?_foldl_set _ _ 0 us i (by simp; omega)]
      simp
    obtain ⟨us', h3, h4, h5, h6, h7⟩ := fillS_sound ps qs (es.set k x) es' (u.cells.zipIdx.foldl (fun cs (c, j) => cs.setIfInBounds (k * esz + j) c) us)
      (fun i e j a hi hj => by
        rw [hlist]
        by_cases hie : k = i
        · subst hie
          rw [List.getElem?_set_self hlt] at hi
          simp at hi; subst hi
          have hjl : j < x.cells.length := (List.getElem?_eq_some_iff.1 hj).1
          have hju : j < u.cells.size := by omega
          refine ⟨u.cells[j], ?_, c2 j a _ hj (by simp [hju])⟩
          rw [if_pos (by omega)]
          simp [hju]
        · rw [List.getElem?_set_ne hie] at hi
          obtain ⟨q, hq, hv⟩ := hh i e j a hi hj
          refine ⟨q, ?_, hv⟩
          have hjl : j < esz := by rw [← he.1 e (List.mem_of_getElem? hi)]; exact (List.getElem?_eq_some_iff.1 hj).1
          rw [if_neg ?_]; exact hq
          intro hc
          rw [c1, hxl] at hc
          simp only [Nat.zero_add] at hc
          have := row_apart hjl hc.1 hc.2
          exact hie this.symm)
      ⟨fun e hm => by
          rcases List.mem_or_eq_of_mem_set hm with h | h
          · exact he.1 e h
          · subst h; exact hxl, fun e hm => by
          rcases List.mem_or_eq_of_mem_set hm with h | h
          · exact he.2 e h
          · subst h; exact fun a ha => List.all_eq_true.1 hall a ha⟩
      (by rw [foldl_zipIdx, size_foldl_set, hs, List.length_set]) (by simpa using hl) (fun i p q hp1 hq1 => hp (i + 1) p q (by simpa using hp1) (by simpa using hq1)) h
    refine ⟨us', ?_, h4, h5, h6, by rw [h7, List.length_set]⟩
    simp only [Instr.fill]
    rw [if_neg hsz]
    exact h3

end Go.Abs

/- 'append'. -/
namespace Go.Abs

variable {H H' : Nat → Blk} {D D' : Nat → Prop} {σ σ' : Sig} {F F' : Nat → Prop} {w w' : World} {v x y z : AV} {u ux uy : Value} {P : Program} {A : Heap}

/-- What an operation that makes or writes memory comes to. -/
def Made (H : Nat → Blk) (D : Nat → Prop) (σ : Sig) (F : Nat → Prop) (w : World) (nid : Nat) (D' : Nat → Prop) (out : Out) (r : Value) (w' : World) : Prop :=
  ∃ σ' F', VR w' σ' F' D' out.v r ∧ Step H D σ F w (updAll H (out.wr ++ out.new.toList.map fun b => (nid, b))) D' σ' F' w'

/-- The new block's number is free. -/
def Free (H : Nat → Blk) (D : Nat → Prop) (D' : Nat → Prop) (nid : Nat) : Prop := H nid = .dead ∧ D' nid ∧ ¬ D nid

theorem Holds.append {es es' : List AV} {vs vs' : Array Value} {esz : Nat} (h : Holds w σ F D es vs 0 esz) (h' : Holds w σ F D es' vs' 0 esz) (hs : vs.size = es.length * esz) :
    Holds w σ F D (es ++ es') (vs ++ vs') 0 esz := by
  intro i e j x hi hj
  by_cases hlt : i < es.length
  · rw [List.getElem?_append_left hlt] at hi
    obtain ⟨u, h1, h2⟩ := h i e j x hi hj
    refine ⟨u, ?_, h2⟩
    rw [Array.getElem?_append_left (getElem?_size h1)]; exact h1
  · rw [List.getElem?_append_right (by omega)] at hi
    obtain ⟨u, h1, h2⟩ := h' (i - es.length) e j x hi hj
    refine ⟨u, ?_, h2⟩
    have hm : i * esz = es.length * esz + (i - es.length) * esz := by rw [← Nat.add_mul]; congr 1; omega
    rw [Array.getElem?_append_right (by omega)]
    rw [show 0 + i * esz + j - vs.size = 0 + (i - es.length) * esz + j by omega]
    exact h1

theorem Holds.push_right {es : List AV} {vs vs' : Array Value} {base esz : Nat} (h : Holds w σ F D es vs base esz) : Holds w σ F D es (vs ++ vs') base esz := by
  intro i e j x hi hj
  obtain ⟨u, h1, h2⟩ := h i e j x hi hj
  exact ⟨u, by rw [Array.getElem?_append_left (getElem?_size h1)]; exact h1, h2⟩

theorem oneCell_of {q : AV} {uq : Value} (h : VR w σ F D q uq) (hq : q.isCell = true) : uq.oneCell' = true := by
  cases h <;> first | rfl | (simp [AV.isCell] at hq)

/-- A slice's first elements, loaded. -/
theorem first_sound {es : List AV} {esz k len cap : Nat} {a : Option Addr} (hr : Rel H D w σ F) (hA : ∀ id, hget A id = H id) (hx : VR w σ F D x (.slice a len cap)) (hes : elems A x = some es)
    (he : ∀ e ∈ es, e.cells.length = esz) (hk : k ≤ len) :
    len = es.length ∧ Elems es esz ∧ ∃ vs : Array Value, (Builtin.firstCells esz k (.slice a len cap)).run P w = .ok vs w ∧ vs.size = k * esz ∧ Holds w σ F D (es.take k) vs 0 esz ∧ (∀ q ∈ vs.toList, q.oneCell' = true) := by
  have main : ∀ (b o : Nat), (∀ (i : Nat) e (j : Nat) q, es[i]? = some e → e.cells[j]? = some q → q.isCell = true ∧ ∃ uq, w.cell? ⟨b, o + i * esz + j, none⟩ = some uq ∧ VR w σ F D q uq) → a = some ⟨b, o, none⟩ → len = es.length →
      Elems es esz ∧ ∃ vs : Array Value, (Builtin.firstCells esz k (.slice a len cap)).run P w = .ok vs w ∧ vs.size = k * esz ∧ Holds w σ F D (es.take k) vs 0 esz ∧ (∀ q ∈ vs.toList, q.oneCell' = true) := by
    intro b o hc ha hl
    subst ha
    refine ⟨⟨he, fun e hm q hq => ?_⟩, ?_⟩
    · obtain ⟨i, hi⟩ := List.getElem?_of_mem hm
      obtain ⟨j, hj⟩ := List.getElem?_of_mem hq
      exact (hc i e j q hi hj).1
    have hf : ∀ m : Nat, ∃ uq, m < k * esz → w.cell? ⟨b, o + m, none⟩ = some uq ∧ uq.oneCell' = true ∧ ∀ (i j : Nat) e q, m = i * esz + j → es[i]? = some e → e.cells[j]? = some q → VR w σ F D q uq := by
      intro m
      by_cases hm : m < k * esz
      · have hpos : 0 < esz := by rcases Nat.eq_zero_or_pos esz with h | h; · simp [h] at hm
                                  · exact h
        have hi : m / esz < es.length := by
          have : m / esz < k := (Nat.div_lt_iff_lt_mul hpos).2 hm
          omega
        have hmod : m % esz < esz := Nat.mod_lt _ hpos
        have hel : (es[m / esz]).cells.length = esz := he _ (List.getElem_mem hi)
        obtain ⟨hcl, uq, h1, h2⟩ := hc (m / esz) es[m / esz] (m % esz) ((es[m / esz]).cells[m % esz]'(by omega)) (by simp [hi]) (by simp [hel, hmod])
        refine ⟨uq, fun _ => ⟨?_, oneCell_of h2 hcl, fun i j e q hm2 hie hjq => ?_⟩⟩
        · rw [← h1]
          have := Nat.div_add_mod' m esz
          rw [show o + m / esz * esz + m % esz = o + (m / esz * esz + m % esz) by omega, this]
        · have hje : j < esz := by rw [← he e (List.mem_of_getElem? hie)]; exact (List.getElem?_eq_some_iff.1 hjq).1
          have hi2 : m / esz = i := by rw [hm2, Nat.mul_comm, Nat.mul_add_div hpos, Nat.div_eq_of_lt hje]; rfl
          have hj2 : m % esz = j := by rw [hm2, Nat.mul_comm, Nat.mul_add_mod, Nat.mod_eq_of_lt hje]
          have e1 : es[m / esz] = e := Option.some.inj ((List.getElem?_eq_getElem hi).symm.trans (by rw [hi2]; exact hie))
          have e2 : (es[m / esz]).cells[m % esz]'(by omega) = q := Option.some.inj ((List.getElem?_eq_getElem (by omega)).symm.trans (by rw [hj2, e1]; exact hjq))
          rw [← e2]; exact h2
      · exact ⟨Go.undef, fun h => absurd h hm⟩
    obtain ⟨f, hf⟩ := Classical.axiomOfChoice hf
    refine ⟨((List.range (k * esz)).map f).toArray, ?_, by simp, ?_, fun q hq => ?_⟩
    · simp only [Builtin.firstCells]
      exact run_loadCells w ⟨b, o, none⟩ (k * esz) f (fun j hj => by rw [addr_add]; exact (hf j hj).1)
    · intro i e j q hi hj
      rw [List.getElem?_take] at hi
      split at hi <;> (try (simp at hi; done))
      rename_i hik
      have hje : j < esz := by rw [← he e (List.mem_of_getElem? hi)]; exact (List.getElem?_eq_some_iff.1 hj).1
      have hlt : i * esz + j < k * esz := by
        have : (i + 1) * esz ≤ k * esz := Nat.mul_le_mul_right _ hik
        rw [Nat.add_mul] at this; omega
      refine ⟨f (i * esz + j), ?_, (hf _ hlt).2.2 i j e q rfl hi hj⟩
      simp [hlt]
    · simp only [List.mem_map, List.mem_range] at hq
      obtain ⟨m, hm, rfl⟩ := hq
      exact (hf m hm).2.1
  cases hx with
  | frz0 clip a cap h =>
    simp [elems] at hes; subst hes
    have : k = 0 := by omega
    subst this
    refine ⟨rfl, ⟨fun _ h => by simp at h, fun _ h => by simp at h⟩, #[], ?_, by simp, fun i e j x hi => by simp at hi, fun q hq => by simp at hq⟩
    cases a <;> simp [Builtin.firstCells, loadCells, loadCellsFrom]
  | frz1 es' clip b off cap esz' f hc hcl hF hs hp hcell hm hv =>
    simp [elems] at hes; subst hes
    obtain ⟨h1, h2⟩ := main b off (fun i e j q hi hj => by
      have e1 : esz' = esz := by rw [← hs e (List.mem_of_getElem? hi), he e (List.mem_of_getElem? hi)]
      subst e1
      exact ⟨hcell e (List.mem_of_getElem? hi) q (List.mem_of_getElem? hj), f i j, hm i e j q hi hj, hv i e j q hi hj⟩) rfl rfl
    exact ⟨rfl, h1, h2⟩
  | own id off len cap clip a hn hc hcl ha hroom =>
    simp only [elems] at hes
    rw [hA id] at hes
    have hb := hr.br id
    cases hB : H id with
    | cells esz' bs =>
      rw [hB] at hes hb
      simp only at hes
      split at hes <;> simp at hes
      rename_i hle
      obtain ⟨h1, h2, h2', vs, T, h3, h4⟩ := hb
      have hl : len = es.length := by rw [← hes]; simp; omega
      rcases Nat.eq_zero_or_pos len with h0 | hpos
      · have hk0 : k = 0 := by omega
        have he0 : es = [] := List.length_eq_zero_iff.1 (by omega)
        subst hk0 he0
        refine ⟨hl, ⟨fun _ h => by simp at h, fun _ h => by simp at h⟩, #[], ?_, by simp, fun i e j x hi => by simp at hi, fun q hq => by simp at hq⟩
        cases a <;> simp [Builtin.firstCells, loadCells, loadCellsFrom]
      · have ha' : a = some ⟨σ.blk id, σ.base id + off * σ.esz id, none⟩ := ha.resolve_left (by omega)
        have e1 : esz' = esz := by
          obtain ⟨e0, hmem⟩ : ∃ e0, e0 ∈ es := List.exists_mem_of_length_pos (by omega)
          have hmem2 := hmem
          rw [← hes] at hmem2
          rw [← he _ hmem, h2 _ (List.mem_of_mem_drop (List.mem_of_mem_take hmem2))]
        subst e1
        obtain ⟨g1, g2⟩ := main (σ.blk id) (σ.base id + off * σ.esz id) (fun i e j q hi hj => by
          rw [← hes, List.getElem?_take] at hi
          split at hi <;> simp at hi
          obtain ⟨uq, h5, h6⟩ := h4 (off + i) e j q hi hj
          refine ⟨h2' e (List.mem_of_getElem? hi) q (List.mem_of_getElem? hj), uq, ?_, h6⟩
          rw [cell_of_heap h3, h1]
          rw [show σ.base id + off * esz' + i * esz' + j = σ.base id + (off + i) * esz' + j by rw [Nat.add_mul]; omega]
          exact h5) ha' hl
        exact ⟨hl, g1, g2⟩
    | _ => rw [hB] at hes; simp at hes

theorem growBy_le (m : Nat) (hm : 255 ≤ m) : ∀ (r c : Nat), c ≤ 2 * m → Builtin.growBy m r c ≤ 2 * m
  | 0, c, h => h
  | r + 1, c, h => by
    unfold Builtin.growBy
    split
    · exact h
    · exact growBy_le m hm r _ (by omega)

theorem nextslicecap_le {need cap : Nat} (h : cap < need) : Builtin.nextslicecap need cap ≤ 2 * need := by
  unfold Builtin.nextslicecap
  split
  · omega
  · split
    · omega
    · exact growBy_le need (by omega) 4 cap (by omega)

end Go.Abs

/- 'append', done. -/
namespace Go.Abs

variable {H H' : Nat → Blk} {D D' : Nat → Prop} {σ σ' : Sig} {F F' : Nat → Prop} {w w' : World} {v x y z : AV} {u ux uy : Value} {P : Program} {A : Heap}

/-- Blocks may be given up. -/
theorem Rel.dead {H2 : Nat → Blk} (h : Rel H D w σ F) (hd : ∀ id, H2 id = H id ∨ H2 id = .dead) : Rel H2 D w σ F := by
  have hl : ∀ id, (H2 id).live = true → H2 id = H id := fun id hi => (hd id).resolve_right (fun e => by rw [e] at hi; cases hi)
  have hl2 : ∀ id, (H2 id).live = true → (H id).live = true := fun id hi => by rw [← hl id hi]; exact hi
  refine ⟨fun id hi => h.dom id (hl2 id hi), fun id => ?_, fun i j hi hj e => h.inj i j (hl2 i hi) (hl2 j hj) e, ?_, h.fsize, ?_⟩
  · rcases hd id with e | e
    · rw [e]; exact h.br id
    · rw [e]; trivial
  · rintro b ⟨id, hi, rfl⟩; exact h.size _ ⟨id, hl2 id hi, rfl⟩
  · rintro b hb ⟨id, hi, rfl⟩; exact h.apart _ hb ⟨id, hl2 id hi, rfl⟩

theorem Step.dead {H2 : Nat → Blk} (h : Step H D σ F w H' D' σ' F' w') (hd : ∀ id, H2 id = H' id ∨ H2 id = .dead) : Step H D σ F w H2 D' σ' F' w' := by
  refine ⟨h.rel.dead hd, h.ext, h.sig, h.le, ?_⟩
  rintro b ⟨id, hi, rfl⟩
  have e : H2 id = H' id := (hd id).resolve_right (fun e => by rw [e] at hi; cases hi)
  exact h.owns _ ⟨id, by rw [← e]; exact hi, rfl⟩

/-- The end of the model's append: what is added is known. -/
def appTail (elem : TypeId) (size n sLen sCap : Nat) (base : Option Addr) (zeros : Bool) (s x : Value) (appended : Sem (Array Value)) : Sem Value :=
  let need := sLen + n
  if need ≤ sCap then do
    let new ← appended
    if let some a := base then storeCells (a.add (sLen * size)) new.toList
    pure (.slice base need sCap)
  else do
    if (need : Int) > IntKind.i64.max ∧ (zeros ∨ (← typeInfo elem).bytes = 0) then runtimePanic (.error "growslice: len out of range")
    if Builtin.nextslicecap need sCap * (← typeInfo elem).bytes > 2 ^ 48 then (if zeros then runtimePanic (.error "growslice: len out of range") else do
      if !(← Builtin.mayShare size sLen n base x) then mark .noRoom
      unsupported (.resourceLimit "append: a slice or a string whose bytes no memory bears"))
    let newCap ← choose (.appendCap need sCap elem)
    askRoom (newCap * (← typeInfo elem).bytes)
    let old ← Builtin.firstCells size sLen s
    let new ← appended
    let rest := Builtin.zeroCells (← zeroValue elem).cells (newCap - need)
    pure (.slice (some (← newRow elem (old ++ new ++ rest))) need newCap)

theorem const_cells_size {k : Nat} {a : Value} {q : AV} (h : constA k a = some q) (ht : q.cells.all AV.isCell = true) : a.cells.size = q.cells.length :=
  (cells_sound (w := default) (σ := fun _ => (0, 0, 0)) (F := fun _ => False) (D := fun _ => False) (constA_sound k a q h) ht).1

theorem run_askRoom (n : Nat) (w : World) : (askRoom n).run P w = .ok () w := by
  unfold askRoom; split <;> rfl

theorem appTail_sound {elem : TypeId} {esz bytes n len cap : Nat} {a : Option Addr} {zeros : Bool} {ux : Value} {appended : Sem (Array Value)} {old new : List AV} {out : Out} {nid : Nat} {zv : AV}
    (hr : Rel H D w σ F) (hn : ∀ id, D id → D' id) (hA : ∀ id, hget A id = H id) (hfree : Free H D D' nid)
    (hx : VR w σ F D x (.slice a len cap)) (hes : elems A x = some old)
    (happ : ∀ w1 : World, w1.heap = w.heap → ∃ vs : Array Value, appended.run P w1 = .ok vs w1 ∧ vs.size = n * esz ∧ Holds w1 σ F D new vs 0 esz ∧ (∀ q ∈ vs.toList, q.oneCell' = true)) (hnl : n = new.length)
    (hsz : szT P elem = some esz) (hby : byT P elem = some bytes) (hz : zeT P elem = some zv) (hzs : zv.cells.length = esz) (hzc : zv.cells.all AV.isCell = true)
    (hb1 : (old.length + new.length) * bytes ≤ maxBytes) (hb2 : old.length + new.length ≤ 9223372036854775807) (hall : ∀ e ∈ old ++ new, e.cells.length = esz) (hcell : Elems new esz) (hne : new ≠ []) (hwide : wide A esz x = true)
    (hout : appOut nid esz x old new = some out) :
    ∃ r w', (appTail elem esz n len cap a zeros (.slice a len cap) ux appended).run P w = .ok r w' ∧ Made H D σ F w nid D' out r w' := by
  have hpos : 0 < new.length := List.length_pos_iff.2 hne
  obtain ⟨hl, hEl, _⟩ := first_sound (P := P) (k := len) hr hA hx hes (fun e he => hall e (List.mem_append_left _ he)) (Nat.le_refl _)
  have hElAll : Elems (old ++ new) esz := ⟨hall, fun e he => by
    rcases List.mem_append.1 he with h | h
    · exact hEl.2 e h
    · exact hcell.2 e h⟩
  -- the growing case, whatever is given up
  have grow : ∀ wr : List (Nat × Blk), (¬ len + n ≤ cap) → (wr = [] ∨ ∃ id esz0 es0, wr = [(id, .dead)] ∧ H id = .cells esz0 es0) →
      ∃ r w', (appTail elem esz n len cap a zeros (.slice a len cap) ux appended).run P w = .ok r w' ∧ Made H D σ F w nid D' ⟨.own nid 0 (old.length + new.length) false, wr, some (.cells esz (old ++ new))⟩ r w' := by
    intro wr hcap hwr
    obtain ⟨i, hi, hib⟩ := byT_run hby w
    have hneed : len + n = old.length + new.length := by omega
    obtain ⟨q, hq⟩ : ∃ q : Nat, Question.cut (.appendCap (len + n) cap elem) (w.tape w.drawn (.appendCap (len + n) cap elem)) = len + n + q := ⟨_, rfl⟩
    let w1 : World := { w with drawn := w.drawn + 1 }
    obtain ⟨vn, hvn, hvns, hvnh, _⟩ := happ w1 rfl
    obtain ⟨zc, hzc1, hzc2⟩ := zeT_run hz w1
    obtain ⟨i1, hi1, hib1⟩ := byT_run hby w1
    have hq0 : Step H D σ F w H D σ F w1 := Step.quiet (w' := w1) hr (fun _ h => h) rfl rfl rfl rfl
    obtain ⟨_, _, vo, hvo1, hvos, hvoh, _⟩ := first_sound (P := P) (k := len) hq0.rel hA (hx.step hr hq0) hes (fun e he => hall e (List.mem_append_left _ he)) (Nat.le_refl _)
    rw [hl, List.take_length] at hvoh
    have hmax : ¬ ((len + n : Nat) : Int) > IntKind.i64.max := by simp [IntKind.max, IntKind.signed, IntKind.bits]; omega
    have hcapb : ¬ Builtin.nextslicecap (len + n) cap * i.bytes > 2 ^ 48 := by
      have h1 := nextslicecap_le (need := len + n) (cap := cap) (by omega)
      have h2 : Builtin.nextslicecap (len + n) cap * i.bytes ≤ 2 * (len + n) * i.bytes := Nat.mul_le_mul_right _ h1
      rw [hneed, hib, Nat.mul_assoc] at h2
      have h3 : 2 * ((old.length + new.length) * bytes) ≤ 2 * maxBytes := Nat.mul_le_mul_left _ hb1
      have : 2 * maxBytes ≤ 2 ^ 48 + 2 ^ 30 := by decide
      unfold maxBytes at *
      rw [hneed, hib]; omega
    let rest := Builtin.zeroCells zc.cells q
    let row := vo ++ vn ++ rest
    refine ⟨.slice (some ⟨w.heap.size, 0, none⟩) (len + n) (len + n + q), { w1 with heap := w1.heap.push (.cells row elem) }, ?_, ?_⟩
    · unfold appTail
      simp only [if_neg hcap, Sem.run_bind, hi, Result.andThen_ok]
      rw [if_neg (by intro h; exact hmax h.1)]
      simp only [Sem.run_pure, Result.andThen_ok, Sem.run_bind, hi, if_neg hcapb]
      simp only [choose, Sem.run, Question.forced, Bool.false_eq_true, if_false, Result.andThen_ok, hq, run_askRoom]
      simp only [show ({ heap := w.heap, tape := w.tape, drawn := w.drawn + 1, os := w.os, output := w.output } : World) = w1 from rfl, hi1, Result.andThen_ok, hvo1, hvn, hzc1, Nat.add_sub_cancel_left, newRow, newObj, Sem.run_bind, Sem.run, Sem.run_pure]
      rfl
    · have hHn : Holds w1 σ F D (old ++ new) row 0 esz := Holds.push_right (vs' := rest) (Holds.append hvoh hvnh (by rw [hvos, hl]))
      have hrs : rest.size = q * esz := by
        show ((Array.range (q * zc.cells.size)).map _).size = _
        simp [const_cells_size hzc2 hzc, hzs]
      have hroom : (len + n + q) * esz ≤ row.size := by
        show _ ≤ (vo ++ vn ++ rest).size
        rw [Array.size_append, Array.size_append, hvos, hvns, hrs, Nat.add_mul, Nat.add_mul]; omega
      have hown : VR { w1 with heap := w1.heap.push (.cells row elem) } (σ.with nid w1.heap.size 0 esz) F D' (.own nid 0 (old.length + new.length) false) (.slice (some ⟨w.heap.size, 0, none⟩) (len + n) (len + n + q)) := by
        rw [← hneed]
        exact VR.own_new (w := w1) hfree.2.1 (by omega) (by simp) hroom
      refine ⟨_, F, hown, ?_⟩
      have hrow := hq0.trans (Step.row hq0.rel hn hfree.1 hfree.2.1 hfree.2.2 elem hElAll hHn)
      rcases hwr with rfl | ⟨id, esz0, es0, rfl, hid⟩
      · exact hrow
      · have hne : id ≠ nid := fun e => by rw [e, hfree.1] at hid; cases hid
        show Step H D σ F w (upd1 (upd1 H id .dead) nid _) D' _ F _
        refine hrow.dead (fun k => ?_)
        by_cases e1 : k = nid
        · subst e1; left; rw [upd1_same, upd1_same]
        · rw [upd1_ne _ _ _ e1, upd1_ne _ _ _ e1]
          by_cases e2 : k = id
          · subst e2; right; rw [upd1_same]
          · left; rw [upd1_ne _ _ _ e2]
  cases hx with
  | frz0 clip a cap h =>
    simp only [appOut] at hout
    split at hout <;> simp at hout
    rename_i hc
    subst hout
    exact grow [] (by have := h hc; omega) (.inl rfl)
  | frz1 es clip b off cap esz' f hc hcl hF hs hp hcell' hm hv =>
    simp only [appOut] at hout
    split at hout <;> simp at hout
    rename_i hclip
    subst hout
    exact grow [] (by have := hcl hclip; omega) (.inl rfl)
  | own id off len cap clip a hid hc hcl ha hroom =>
    simp only [elems] at hes
    rw [hA id] at hes
    cases hB : H id with
    | cells esz' bs =>
      rw [hB] at hes
      simp only at hes
      split at hes <;> simp at hes
      rename_i hle
      simp only [appOut] at hout
      split at hout
      · rename_i hclip
        simp at hout; subst hout
        exact grow [] (by have := hcl hclip; omega) (.inl rfl)
      · simp at hout; subst hout
        by_cases hcap : len + n ≤ cap
        · -- in place
          have hcap0 : cap ≠ 0 := by omega
          have ha' : a = some ⟨σ.blk id, σ.base id + off * σ.esz id, none⟩ := ha.resolve_left hcap0
          obtain ⟨vs0, T0, fr0, hroom1, hroom2⟩ := hroom.resolve_left hcap0
          have hbr := hr.br id
          rw [hB] at hbr
          obtain ⟨h1, h2, h2', vs, T, h3, h4⟩ := hbr
          rw [hroom1] at h3
          have h5 : vs0 = vs ∧ T0 = T ∧ fr0 = (0, 0) := by simp at h3; exact h3
          obtain ⟨rfl, rfl, rfl⟩ := h5
          obtain ⟨vn, hvn, hvns, hvnh, hone⟩ := happ w rfl
          have he1 : esz' = esz := by simp only [wide] at hwide; rw [hA id, hB] at hwide; simpa using hwide
          subst he1
          rw [h1] at ha' hroom2
          subst ha'
          have hm1 : (len + n) * esz' ≤ cap * esz' := Nat.mul_le_mul_right _ hcap
          rw [Nat.add_mul] at hm1 hroom2
          have hrun := run_storeCells_at (P := P) (σ.blk id) (σ.base id + off * esz' + len * esz') T0 vn.toList 0 vs0 w hroom1 (by simp; omega) hone
          generalize hvs' : ((vs0.toList.take (σ.base id + off * esz' + len * esz' + 0) ++ vn.toList ++ vs0.toList.drop (σ.base id + off * esz' + len * esz' + 0 + vn.toList.length)).toArray) = vs' at hrun
          have hget : ∀ k : Nat, vs'[k]? = if k < σ.base id + off * esz' + len * esz' then vs0[k]? else if k < σ.base id + off * esz' + len * esz' + vn.size then vn[k - (σ.base id + off * esz' + len * esz')]? else vs0[k]? := by
            intro k
            rw [← hvs']
            simp only [List.getElem?_toArray, Nat.add_zero]
            have htl : (vs0.toList.take (σ.base id + off * esz' + len * esz')).length = σ.base id + off * esz' + len * esz' := by simp; omega
            by_cases hk1 : k < σ.base id + off * esz' + len * esz'
            · rw [if_pos hk1, List.append_assoc, List.getElem?_append_left (by omega), List.getElem?_take_of_lt hk1]; simp
            · rw [if_neg hk1]
              by_cases hk2 : k < σ.base id + off * esz' + len * esz' + vn.size
              · rw [if_pos hk2, List.append_assoc, List.getElem?_append_right (by omega), htl, List.getElem?_append_left (by simp; omega)]; simp
              · rw [if_neg hk2, List.getElem?_append_right (by simp; omega), List.getElem?_drop]
                simp only [List.length_append, htl, Array.length_toList]
                rw [show σ.base id + off * esz' + len * esz' + vn.size + (k - (σ.base id + off * esz' + len * esz' + vn.size)) = k by omega]
                simp
          have hvsz : vs'.size = vs0.size := by rw [← hvs']; simp; omega
          refine ⟨.slice (some ⟨σ.blk id, σ.base id + off * esz', none⟩) (len + n) cap, w.setRow (σ.blk id) vs', ?_, σ.with nid (σ.blk id) (σ.base id + off * esz') esz', F, ?_, ?_⟩
          · unfold appTail
            simp only [if_pos hcap, Sem.run_bind, hvn, Result.andThen_ok, addr_add, hrun, Sem.run_pure]
          · rw [show old.length + new.length = len + n by omega]
            refine .own nid 0 (len + n) cap false _ hfree.2.1 hcap (by simp) (.inr ?_) (.inr ⟨vs', T0, (0, 0), ?_, ?_⟩)
            · rw [Sig.with_blk, Sig.with_base]; simp
            · rw [Sig.with_blk]; exact setRow_heap w (σ.blk id) vs0 vs' T0 (0, 0) hroom1
            · rw [Sig.with_base, Sig.with_esz, hvsz]; simp; omega
          · refine Step.over hr hn hfree.1 hfree.2.1 hfree.2.2 hB hroom1 hvsz hElAll ?_
            intro i e j q hi hj
            by_cases hil : i < old.length
            · rw [List.getElem?_append_left hil, ← hes, List.getElem?_take] at hi
              split at hi <;> simp at hi
              obtain ⟨uq, h5, h6⟩ := h4 (off + i) e j q hi hj
              refine ⟨uq, ?_, h6⟩
              have hje : j < esz' := by rw [← h2 e (List.mem_of_getElem? hi)]; exact (List.getElem?_eq_some_iff.1 hj).1
              have hlt : i * esz' + j < len * esz' := by
                have : (i + 1) * esz' ≤ len * esz' := Nat.mul_le_mul_right _ (by omega)
                rw [Nat.add_mul] at this; omega
              rw [hget, if_pos (by omega)]
              rw [show σ.base id + off * esz' + i * esz' + j = σ.base id + (off + i) * esz' + j by rw [Nat.add_mul]; omega]
              exact h5
            · rw [List.getElem?_append_right (by omega)] at hi
              obtain ⟨uq, h5, h6⟩ := hvnh (i - old.length) e j q hi hj
              refine ⟨uq, ?_, h6⟩
              have hsz5 := getElem?_size h5
              have hm : i * esz' = len * esz' + (i - old.length) * esz' := by rw [← Nat.add_mul]; congr 1; omega
              rw [hget, if_neg (by omega), if_pos (by omega)]
              rw [show σ.base id + off * esz' + i * esz' + j - (σ.base id + off * esz' + len * esz') = 0 + (i - old.length) * esz' + j by omega]
              exact h5
        · exact grow [(id, .dead)] hcap (.inr ⟨id, esz', bs, rfl, hB⟩)
    | _ => rw [hB] at hes; simp at hes
  | _ => simp [elems] at hes

end Go.Abs

/- Boxes, stores, new slices, copies. -/
namespace Go.Abs

variable {H H' : Nat → Blk} {D D' : Nat → Prop} {σ σ' : Sig} {F F' : Nat → Prop} {w w' : World} {v x y z : AV} {u ux uy : Value} {P : Program} {A : Heap}

/-- More numbers may be named. -/
theorem Step.more {D2 : Nat → Prop} (h : Step H D σ F w H' D' σ' F' w') (hn : ∀ id, D' id → D2 id) : Step H D σ F w H' D2 σ' F' w' :=
  ⟨⟨fun a b => hn _ (h.rel.dom a b), fun a => (h.rel.br a).carry rfl (fun hl => h.rel.dom a hl) (fun _ h => h) (fun _ _ => rfl) (fun _ vs _ _ h => ⟨vs, h, rfl⟩) (fun _ _ => rfl) hn, h.rel.inj, h.rel.size, h.rel.fsize, h.rel.apart⟩, h.ext, h.sig, fun id hid => hn id (h.le id hid), h.owns⟩

theorem updAll_nil : updAll H [] = H := rfl
theorem updAll_one {i : Nat} {b : Blk} : updAll H [(i, b)] = upd1 H i b := rfl

/-- A variable of its own for a value. -/
theorem box_made {nid : Nat} (hr : Rel H D w σ F) (hn : ∀ id, D id → D' id) (hfree : Free H D D' nid) (T : TypeId) (hx : VR w σ F D x ux) (hc : x.cells.all AV.isCell = true) :
    Made H D σ F w nid D' ⟨.ptr nid 0 0, [], some (.cells x.cells.length [x])⟩ (.pointer (some ⟨w.heap.size, 0, none⟩)) { w with heap := w.heap.push (.cells ux.cells T) } := by
  obtain ⟨c1, c2, _⟩ := cells_sound hx hc
  refine ⟨_, F, VR.ptr_new hfree.2.1 (T := T), Step.row hr hn hfree.1 hfree.2.1 hfree.2.2 T (esz := x.cells.length) ⟨by simp, fun e he => ?_⟩ ?_⟩
  · simp at he; subst he; exact fun a ha => List.all_eq_true.1 hc a ha
  · intro i e j q hi hj
    cases i with
    | zero =>
      simp at hi; subst hi
      have hlt : j < ux.cells.size := by rw [c1]; exact (List.getElem?_eq_some_iff.1 hj).1
      exact ⟨ux.cells[j], by simp [hlt], c2 j q _ hj (by simp [hlt])⟩
    | succ i => simp at hi

theorem remake_cells {e : AV} {cs : List AV} (hl : cs.length = e.cells.length) (hc : ∀ q ∈ cs, q.isCell = true) : (e.remake cs).cells = cs := by
  have one : ∀ q : AV, q.isCell = true → q.cells = [q] := by intro q hq; cases q <;> simp_all [AV.cells, AV.isCell]
  cases e with
  | agg _ => rfl
  | _ =>
    simp only [AV.cells, List.length_singleton] at hl
    obtain ⟨c, rfl⟩ := List.length_eq_one_iff.1 hl
    simp only [AV.remake, List.headD_cons]
    exact one c (hc c (by simp))

theorem setRow_take {vs : Array Value} {l : List Value} {o : Nat} (h : o + l.length ≤ vs.size) (k : Nat) :
    (vs.toList.take o ++ l ++ vs.toList.drop (o + l.length)).toArray[k]? = (if o ≤ k ∧ k < o + l.length then l[k - o]? else vs[k]?) := by
  simp only [List.getElem?_toArray]
  have htl : (vs.toList.take o).length = o := by simp; omega
  by_cases hk1 : k < o
  · rw [if_neg (by omega), List.append_assoc, List.getElem?_append_left (by omega), List.getElem?_take_of_lt hk1]; simp
  · by_cases hk2 : k < o + l.length
    · rw [if_pos ⟨by omega, hk2⟩, List.append_assoc, List.getElem?_append_right (by omega), htl, List.getElem?_append_left (by omega)]
    · rw [if_neg (by omega), List.getElem?_append_right (by simp; omega), List.getElem?_drop]
      simp only [List.length_append, htl]
      rw [show o + l.length + (k - (o + l.length)) = k by omega]
      simp

/-- A store. -/
theorem st_sound {n id : Nat} {B : Blk} {t : TypeId} {nid : Nat} (hr : Rel H D w σ F) (hn : ∀ id, D id → D' id) (hA : ∀ id, hget A id = H id) (hp : VR w σ F D x ux) (hy : VR w σ F D y uy) (hs : szT P t = some n) (h : st A n x y = some (id, B)) :
    ∃ a w', ux = .pointer (some a) ∧ (storeVar t a uy).run P w = .ok () w' ∧ Made H D σ F w nid D' ⟨undefA, [(id, B)], none⟩ Go.undef w' := by
  cases hp with
  | ptr id' i off hid =>
    simp only [st] at h
    rw [hA id'] at h
    have hbr := hr.br id'
    cases hB : H id' with
    | cells esz es =>
      rw [hB] at h hbr
      simp only at h
      split at h <;> (try (simp at h; done))
      rename_i e he
      split at h <;> simp at h
      rename_i hcond
      obtain ⟨hpos, hyl, hle, hall⟩ := hcond
      obtain ⟨rfl, rfl⟩ := h
      obtain ⟨h1, h2, h2', vs, T, h3, h4⟩ := hbr
      obtain ⟨c1, c2, c3⟩ := cells_sound hy hall
      have hee : e.cells.length = esz := h2 e (List.mem_of_getElem? he)
      have hilt : i < es.length := (List.getElem?_eq_some_iff.1 he).1
      -- the cells stand in the row
      have hroom : σ.base id' + i * esz + off + n ≤ vs.size := by
        obtain ⟨u, h5, _⟩ := h4 i e (off + n - 1) (e.cells[off + n - 1]'(by omega)) he (by simp)
        have := getElem?_size h5
        omega
      have hlen : uy.cells.toList.length = n := by simp; omega
      refine ⟨_, w.setRow (σ.blk id') (vs.toList.take (σ.base id' + i * esz + off) ++ uy.cells.toList ++ vs.toList.drop (σ.base id' + i * esz + off + uy.cells.toList.length)).toArray, rfl, ?_, σ, F, VR.undef, ?_⟩
      · have := run_storeCells_at (P := P) (σ.blk id') (σ.base id' + i * esz + off) T uy.cells.toList 0 vs w h3 (by omega) c3
        simp only [Nat.add_zero] at this
        simp only [storeVar, Sem.run_bind, szT_run hs w, Result.andThen_ok, h1]
        rw [if_neg (by simp; omega)]
        simpa using this
      · show Step H D σ F w (upd1 H id' _) D' σ F _
        have hov : (overlay e.cells off y.cells).length = e.cells.length := length_overlay _ _ _ (by omega)
        have hoc : ∀ q ∈ overlay e.cells off y.cells, q.isCell = true := by
          intro q hq
          simp only [overlay, List.mem_append] at hq
          rcases hq with (hq | hq) | hq
          · exact h2' e (List.mem_of_getElem? he) q (List.mem_of_mem_take hq)
          · exact List.all_eq_true.1 hall q hq
          · exact h2' e (List.mem_of_getElem? he) q (List.mem_of_mem_drop hq)
        have hrc := remake_cells (e := e) hov hoc
        have hst : Step H D σ F w (upd1 H id' (.cells esz (es.set i (e.remake (overlay e.cells off y.cells))))) D σ F (w.setRow (σ.blk id') (vs.toList.take (σ.base id' + i * esz + off) ++ uy.cells.toList ++ vs.toList.drop (σ.base id' + i * esz + off + uy.cells.toList.length)).toArray) := by
          refine Step.setRow hr hB h3 (by simp; omega) ⟨fun q hq => ?_, fun q hq => ?_⟩ ?_
          · rcases List.mem_or_eq_of_mem_set hq with h | h
            · exact h2 q h
            · subst h; rw [hrc, hov]; exact hee
          · rcases List.mem_or_eq_of_mem_set hq with h | h
            · exact h2' q h
            · subst h; rw [hrc]; exact hoc
          · intro k e' j q hk hj
            by_cases hik : i = k
            · subst hik
              rw [List.getElem?_set_self hilt] at hk
              simp at hk; subst hk
              rw [hrc, getElem?_overlay _ _ _ _ (by omega)] at hj
              by_cases hin : off ≤ j ∧ j < off + y.cells.length
              · rw [if_pos hin] at hj
                have hlt : j - off < uy.cells.size := by omega
                refine ⟨uy.cells[j - off], ?_, c2 (j - off) q _ hj (by simp [hlt])⟩
                rw [setRow_take (by omega), if_pos (by omega)]
                rw [show σ.base id' + i * esz + j - (σ.base id' + i * esz + off) = j - off by omega]
                simp [hlt]
              · rw [if_neg hin] at hj
                obtain ⟨u, h5, h6⟩ := h4 i e j q he hj
                refine ⟨u, ?_, h6⟩
                rw [setRow_take (by omega), if_neg (by omega)]; exact h5
            · rw [List.getElem?_set_ne hik] at hk
              obtain ⟨u, h5, h6⟩ := h4 k e' j q hk hj
              refine ⟨u, ?_, h6⟩
              have hjl : j < esz := by rw [← h2 e' (List.mem_of_getElem? hk)]; exact (List.getElem?_eq_some_iff.1 hj).1
              rw [setRow_take (by omega), if_neg ?_]; · exact h5
              intro hc
              exact hik (row_apart (esz := esz) (i := k) (k := i) hjl (by omega) (by omega)).symm
        exact hst.more hn
    | _ => rw [hB] at h; simp at h
  | _ => simp [st] at h

end Go.Abs

/- Comparisons, slice expressions, indexes. -/
namespace Go.Abs

variable {H H' : Nat → Blk} {D D' : Nat → Prop} {σ σ' : Sig} {F F' : Nat → Prop} {w w' : World} {v x y z : AV} {u ux uy : Value} {P : Program} {A : Heap}

theorem nil_sound {k : NK} {t : TypeId} {d : TypeDesc} {yo : Operand} {b : Bool} {a : Act} (hd : P.underlying t = some d) (hk : nilOf d yo = some k) (hx : VR w σ F D x ux) (h : isNilA k x = some b) (m : Nat) :
    (Op.equalIn (m + 1) t ux (a.eval yo)).run P w = .ok b w := by
  unfold nilOf at hk
  split at hk <;> simp at hk <;> subst hk <;> unfold isNilA at h <;> split at h <;> (try simp at h) <;> (try contradiction) <;> subst h <;> cases hx <;>
    first
      | (simp [Op.equalIn, run_underlying hd, Act.eval]; done)
      | (rename_i hn' ha' hr' hc' hcl'; rcases ha' with rfl | rfl; · omega
         simp [Op.equalIn, run_underlying hd, Act.eval])

theorem nil_guard {k : NK} {t : TypeId} {d : TypeDesc} {xo yo : Operand} {b : Bool} {a : Act} {op : BinOp} (hk : nilOf d yo = some k) (hx : VR w σ F D x ux) (h : isNilA k x = some b) :
    (eqGuard op t xo yo ux (a.eval yo)).run P w = .ok () w := by
  unfold nilOf at hk
  split at hk <;> simp at hk <;> subst hk <;> unfold isNilA at h <;> split at h <;> (try simp at h) <;> (try contradiction) <;> subst h <;> cases hx <;>
    cases op <;> simp [eqGuard, Act.eval]

theorem basic_sound {k : KC} {d : TypeDesc} {t : TypeId} {b : Bool} (hd : P.underlying t = some d) (hk : kcOf d = some k) (hx : VR w σ F D x ux) (hy : VR w σ F D y uy) (h : basicEq k x y = some b) (m : Nat) :
    (Op.equalIn (m + 1) t ux uy).run P w = .ok b w := by
  unfold kcOf at hk
  split at hk <;> simp at hk <;> subst hk <;> unfold basicEq at h <;> split at h <;> (try simp at h) <;> (try contradiction) <;> cases hx <;> cases hy
  · obtain ⟨rfl, rfl⟩ := h
    simp [Op.equalIn, run_underlying hd]
  · subst h; simp [Op.equalIn, run_underlying hd]
  · subst h
    exact run_equalIn_string w m t _ _ hd

end Go.Abs

/- '==' of structs and arrays of whole numbers, bools and strings. -/
namespace Go.Abs

variable {H H' : Nat → Blk} {D D' : Nat → Prop} {σ σ' : Sig} {F F' : Nat → Prop} {w w' : World} {v x y z : AV} {u ux uy : Value} {P : Program} {A : Heap}

theorem flatEq_append : ∀ (k1 k2 : List KC) (xs ys : List AV) (b : Bool), flatEq (k1 ++ k2) xs ys = some b →
    ∃ b1 b2, flatEq k1 (xs.take k1.length) (ys.take k1.length) = some b1 ∧ flatEq k2 (xs.drop k1.length) (ys.drop k1.length) = some b2 ∧ b = (b1 && b2)
  | [], k2, xs, ys, b, h => ⟨true, b, by simp [flatEq], by simpa using h, by simp⟩
  | k :: k1, k2, xs, ys, b, h => by
    cases xs with
    | nil => simp [flatEq] at h
    | cons x xs =>
      cases ys with
      | nil => simp [flatEq] at h
      | cons y ys =>
        simp only [List.cons_append, flatEq] at h
        split at h <;> simp at h
        rename_i p q hp hq
        subst h
        obtain ⟨b1, b2, h1, h2, rfl⟩ := flatEq_append k1 k2 xs ys q hq
        exact ⟨p && b1, b2, by simp [flatEq, hp, h1], by simpa using h2, by simp [Bool.and_assoc]⟩

theorem flatEq_len : ∀ (k : List KC) (xs ys : List AV) (b : Bool), flatEq k xs ys = some b → xs.length = k.length ∧ ys.length = k.length
  | [], xs, ys, b, h => by cases xs <;> cases ys <;> simp [flatEq] at h ⊢
  | k :: ks, xs, ys, b, h => by
    cases xs <;> cases ys <;> simp [flatEq] at h ⊢
    split at h <;> simp at h
    rename_i hq
    exact flatEq_len ks _ _ _ hq

theorem Cells.extract {cs : List AV} {us : Array Value} (h : Cells w σ F D cs us) (off n : Nat) : Cells w σ F D ((cs.drop off).take n) (us.extract off (off + n)) := by
  refine ⟨by simp [h.1]; omega, fun i x u hx hu => ?_⟩
  rw [List.getElem?_take] at hx
  split at hx <;> simp at hx
  rw [Array.getElem?_extract] at hu
  split at hu <;> (try (simp at hu; done))
  exact h.2 (off + i) x u hx hu

def PartEq (P : Program) (w : World) (m : Nat) (t : TypeId) (ks : List KC) : Prop :=
  ∀ (σ : Sig) (F D : Nat → Prop) (us vs : Array Value) (xs ys : List AV) (off : Nat) (b : Bool), Cells w σ F D xs us → Cells w σ F D ys vs →
    flatEq ks ((xs.drop off).take ks.length) ((ys.drop off).take ks.length) = some b →
    ∃ a c, (part t us off).run P w = .ok a w ∧ (part t vs off).run P w = .ok c w ∧ (Op.equalIn m t a c).run P w = .ok b w

theorem fields_eq {g : TypeId → Option (List KC)} {m : Nat} (hg : ∀ t ks, g t = some ks → szT P t = some ks.length → PartEq P w m t ks) (σ : Sig) (F D : Nat → Prop) (us vs : Array Value) (xs ys : List AV)
    (hx : Cells w σ F D xs us) (hy : Cells w σ F D ys vs) : ∀ (fs : List Field) (off : Nat) (ks : List KC) (b : Bool), flatFs P g fs off = some ks → flatEq ks ((xs.drop off).take ks.length) ((ys.drop off).take ks.length) = some b →
    (Op.eqFields m us vs fs).run P w = .ok b w
  | [], off, ks, b, h, hb => by
    simp [flatFs] at h; subst h; simp [flatEq] at hb; subst hb; rfl
  | f :: fs, off, ks, b, h, hb => by
    simp only [flatFs] at h
    split at h <;> (try (simp at h; done))
    rename_i hc
    simp at hc
    obtain ⟨hn, rfl⟩ := hc
    split at h <;> (try (simp at h; done))
    rename_i l hl
    split at h <;> (try (simp at h; done))
    rename_i hs
    simp only [Option.map_eq_some_iff] at h
    obtain ⟨ks2, hk2, rfl⟩ := h
    obtain ⟨b1, b2, e1, e2, rfl⟩ := flatEq_append l ks2 _ _ b hb
    rw [List.take_take, List.take_take] at e1
    simp only [List.length_append] at e1 e2
    rw [show min l.length (l.length + ks2.length) = l.length by omega] at e1
    rw [List.drop_take, List.drop_take, List.drop_drop, List.drop_drop, show l.length + ks2.length - l.length = ks2.length by omega] at e2
    obtain ⟨a, c, p1, p2, p3⟩ := hg f.type l hl hs σ F D us vs xs ys f.offset b1 hx hy e1
    have ih := fields_eq hg σ F D us vs xs ys hx hy fs (f.offset + l.length) ks2 b2 hk2 e2
    simp only [Op.eqFields, hn, ne_eq, not_false_eq_true, if_true, Sem.run_bind, p1, p2, p3, Result.andThen_ok]
    cases b1
    · simp
    · simpa using ih

theorem items_eq {e : TypeId} {l : List KC} {m : Nat} (hg : PartEq P w m e l) (hsz : P.cellsOf e = l.length) (σ : Sig) (F D : Nat → Prop) (us vs : Array Value) (xs ys : List AV)
    (hx : Cells w σ F D xs us) (hy : Cells w σ F D ys vs) : ∀ (k j : Nat) (b : Bool), flatEq (List.replicate k l).flatten ((xs.drop (j * l.length)).take (k * l.length)) ((ys.drop (j * l.length)).take (k * l.length)) = some b →
    (Op.eqItems m e (P.cellsOf e) us vs (List.range' j k)).run P w = .ok b w
  | 0, j, b, hb => by simp [flatEq] at hb; subst hb; simp [Op.eqItems]
  | k + 1, j, b, hb => by
    rw [List.replicate_succ, List.flatten_cons] at hb
    obtain ⟨b1, b2, e1, e2, rfl⟩ := flatEq_append l _ _ _ b hb
    rw [List.take_take, List.take_take, show min l.length ((k + 1) * l.length) = l.length by rw [Nat.add_mul]; omega] at e1
    rw [List.drop_take, List.drop_take, List.drop_drop, List.drop_drop, show (k + 1) * l.length - l.length = k * l.length by rw [Nat.add_mul]; omega,
      show j * l.length + l.length = (j + 1) * l.length by rw [Nat.add_mul]; omega] at e2
    obtain ⟨a, c, p1, p2, p3⟩ := hg σ F D us vs xs ys (j * l.length) b1 hx hy e1
    have ih := items_eq hg hsz σ F D us vs xs ys hx hy k (j + 1) b2 e2
    rw [List.range'_succ]
    rw [hsz] at ih ⊢
    simp only [Op.eqItems, Sem.run_bind, p1, p2, p3, Result.andThen_ok]
    cases b1
    · simp
    · simpa using ih

theorem cellsOf_szT {t : TypeId} {n : Nat} (h : szT P t = some n) : P.cellsOf t = n := by
  unfold szT at h
  unfold Program.cellsOf
  cases hi : P.info? t <;> simp_all

theorem info_szT {t : TypeId} {n : Nat} (h : szT P t = some n) : ∃ i, P.info? t = some i := by
  unfold szT at h
  cases hi : P.info? t with
  | none => simp [hi] at h
  | some i => exact ⟨i, rfl⟩

theorem flat_sound : ∀ (k m : Nat) (t : TypeId) (ks : List KC), flatT P k t = some ks → szT P t = some ks.length → PartEq P w (k + m) t ks
  | 0, _, _, _, h, _ => by simp [flatT] at h
  | k + 1, m, t, ks, h, hs => by
    intro σ F D us vs xs ys off b hx hy hb
    simp only [flatT] at h
    split at h
    · rename_i fs hd
      split at h <;> (try (simp at h; done))
      rename_i hst
      have hag : agT P t = some true := by simp [agT, hd]
      refine ⟨.agg (us.extract off (off + ks.length)), .agg (vs.extract off (off + ks.length)), ?_, ?_, ?_⟩
      · simp [part, agT_run hag w, szT_run hs w]
      · simp [part, agT_run hag w, szT_run hs w]
      · have hfo : P.fieldsOf t = fs := by simp [Program.fieldsOf, hd]
        rw [show k + 1 + m = (k + m) + 1 by omega, run_equalIn_struct w (k + m) t _ _ (by rw [hfo]; exact hd) (by simpa using hst), hfo]
        refine fields_eq (g := flatT P k) (fun t' ks' h1 h2 => flat_sound k m t' ks' h1 h2) σ F D _ _ _ _ (hx.extract off ks.length) (hy.extract off ks.length) fs.toList 0 ks b h ?_
        simpa [List.take_take] using hb
    · rename_i n e hd
      split at h <;> (try (simp at h; done))
      rename_i l hl
      split at h <;> simp at h
      rename_i hse
      subst h
      have hag : agT P t = some true := by simp [agT, hd]
      have hlen : (List.replicate n l).flatten.length = n * l.length := by simp
      refine ⟨.agg (us.extract off (off + n * l.length)), .agg (vs.extract off (off + n * l.length)), ?_, ?_, ?_⟩
      · simp [part, agT_run hag w, szT_run hs w]
      · simp [part, agT_run hag w, szT_run hs w]
      · obtain ⟨i, hi⟩ := info_szT hse
        rw [show k + 1 + m = (k + m) + 1 by omega, run_equalIn_array w (k + m) _ _ hd hi, List.range_eq_range']
        refine items_eq (flat_sound k m e l hl hse) (cellsOf_szT hse) σ F D _ _ _ _ (hx.extract off (n * l.length)) (hy.extract off (n * l.length)) n 0 b ?_
        rw [hlen] at hb
        simpa [List.take_take] using hb
    · rename_i d hns hna hd
      simp only [Option.map_eq_some_iff] at h
      obtain ⟨c, hc, rfl⟩ := h
      have hag : agT P t = some false := by
        simp only [agT, hd, Option.map_some]
      obtain ⟨l1, l2⟩ := flatEq_len _ _ _ _ hb
      simp only [List.length_singleton, List.length_take, List.length_drop] at l1 l2 hb
      have hxo : off < xs.length := by omega
      have hyo : off < ys.length := by omega
      rw [List.drop_eq_getElem_cons hxo, List.drop_eq_getElem_cons hyo] at hb
      simp only [List.take_succ_cons, List.take_zero, flatEq] at hb
      split at hb <;> simp at hb
      rename_i p q hp hq
      have hux : off < us.size := by rw [hx.1]; exact hxo
      have huy : off < vs.size := by rw [hy.1]; exact hyo
      simp at hq
      subst hq
      simp at hb
      subst hb
      refine ⟨us[off], vs[off], by simp [part, agT_run hag w, hux], by simp [part, agT_run hag w, huy], ?_⟩
      rw [show k + 1 + m = (k + m) + 1 by omega]
      exact basic_sound hd hc (hx.2 off _ _ (by simp [hxo]) (by simp [hux])) (hy.2 off _ _ (by simp [hyo]) (by simp [huy])) hp (k + m)
    · simp at h

/-- '==' of two values whose type is made of whole numbers, bools and strings. -/
theorem eqBy_sound {t : TypeId} {ek : EqK} {b : Bool} (ht : eqT P t = some ek) (hx : VR w σ F D x ux) (hy : VR w σ F D y uy) (h : eqBy ek x y = some b) :
    (Op.equal t ux uy).run P w = .ok b w := by
  show (Op.equalIn 10000 t ux uy).run P w = _
  unfold eqT at ht
  have agg : ∀ {l : List KC}, flatT P 8 t = some l → szT P t = some l.length → ek = .many l → agT P t = some true → (Op.equalIn 10000 t ux uy).run P w = .ok b w := by
    intro l hl hs he hag
    subst he
    unfold eqBy at h
    split at h <;> (try (simp at h; done))
    · rename_i hk; cases hk
    · rename_i l' xs ys hk
      cases hk
      cases hx with
      | agg _ us hlx _ hvx =>
      cases hy with
      | agg _ vs hly _ hvy =>
      obtain ⟨l1, l2⟩ := flatEq_len _ _ _ _ h
      obtain ⟨a, c, p1, p2, p3⟩ := flat_sound 8 9992 t l hl hs σ F D us vs xs ys 0 b ⟨hlx, hvx⟩ ⟨hly, hvy⟩ (by simpa [← l1, List.take_length, show l.length = ys.length by omega] using (by rw [List.take_of_length_le (by omega), List.take_of_length_le (by omega)]; exact h : flatEq l (List.take l.length xs) (List.take l.length ys) = some b))
      simp only [part, Sem.run_bind, agT_run hag w, Result.andThen_ok, if_true, szT_run hs w, Sem.run_pure, Nat.zero_add] at p1 p2
      have e1 : us.extract 0 l.length = us := by rw [show l.length = us.size by omega]; simp
      have e2 : vs.extract 0 l.length = vs := by rw [show l.length = vs.size by omega]; simp
      rw [e1] at p1
      rw [e2] at p2
      simp at p1 p2
      subst p1 p2
      exact p3
  split at ht
  · rename_i fs hd
    split at ht <;> (try (simp at ht; done))
    split at ht <;> (try (simp at ht; done))
    rename_i l hl
    split at ht <;> simp at ht
    rename_i hs
    exact agg hl hs ht.symm (by simp [agT, hd])
  · rename_i n e hd
    split at ht <;> (try (simp at ht; done))
    split at ht <;> (try (simp at ht; done))
    rename_i l hl
    split at ht <;> simp at ht
    rename_i hs
    exact agg hl hs ht.symm (by simp [agT, hd])
  · rename_i d hns hna hd
    simp only [Option.map_eq_some_iff] at ht
    obtain ⟨c, hc, rfl⟩ := ht
    exact basic_sound hd hc hx hy h 9999
  · simp at ht

end Go.Abs

/- Slice expressions and indexes. -/
namespace Go.Abs

variable {H H' : Nat → Blk} {D D' : Nat → Prop} {σ σ' : Sig} {F F' : Nat → Prop} {w w' : World} {v x y z : AV} {u ux uy : Value} {P : Program} {A : Heap}

/-- Optional operands. -/
def OptVR (w : World) (σ : Sig) (F D : Nat → Prop) (a : Option AV) (b : Option Value) : Prop :=
  match a, b with
  | none, none => True
  | some x, some u => VR w σ F D x u
  | _, _ => False

theorem bounds_run {lo hi mx : Option AV} {ul uh um : Option Value} {len cap h l : Nat} (isS : Bool) (hl : OptVR w σ F D lo ul) (hh : OptVR w σ F D hi uh) (hm : OptVR w σ F D mx um) (hc : len ≤ cap)
    (h1 : bound hi len len = some h) (h2 : bound lo 0 h = some l) (h3 : mx = none ∨ ∃ k, mx = some (.int k h) ∧ hi.isSome = true) :
    (Instr.sliceBounds isS len cap ul uh um).run P w = .ok (l, h, if mx.isSome then h else cap) w ∧ l ≤ h ∧ h ≤ len := by
  have hb : ∀ (a : Option AV) (b : Option Value) (d most r : Nat), OptVR w σ F D a b → bound a d most = some r → d ≤ most → r ≤ most ∧ ((a = none ∧ b = none ∧ r = d) ∨ ∃ u, b = some u ∧ ∀ (c : Nat) (code : BoundsCode), most ≤ c → (Instr.sliceBound u c code).run P w = .ok r w) := by
    intro a b d most r hab hr hd
    unfold bound at hr
    split at hr
    · simp at hr; subst hr
      cases b with
      | none => exact ⟨hd, .inl ⟨rfl, rfl, rfl⟩⟩
      | some u => exact absurd hab (by simp [OptVR])
    · rename_i k i
      split at hr <;> simp at hr
      rename_i hi
      subst hr
      cases b with
      | none => exact absurd hab (by simp [OptVR])
      | some u =>
        cases (show VR w σ F D (.int k i) u from hab)
        refine ⟨by omega, .inr ⟨_, rfl, fun c code hcc => ?_⟩⟩
        simp [Instr.sliceBound, asIntOf, show 0 ≤ i ∧ i ≤ (c : Int) by omega]
    · simp at hr
  obtain ⟨g1, g2⟩ := hb hi uh len len h hh h1 (Nat.le_refl _)
  obtain ⟨g3, g4⟩ := hb lo ul 0 h l hl h2 (Nat.zero_le _)
  refine ⟨?_, g3, g1⟩
  rcases h3 with rfl | ⟨k, rfl, hs⟩
  · cases um with
    | some u => exact absurd hm (by simp [OptVR])
    | none =>
      rcases g2 with ⟨rfl, rfl, rfl⟩ | ⟨u1, rfl, g2⟩ <;> rcases g4 with ⟨rfl, rfl, rfl⟩ | ⟨u2, rfl, g4⟩
      · simp [Instr.sliceBounds]
      · simp [Instr.sliceBounds, g4 h _ (Nat.le_refl _)]
      · simp [Instr.sliceBounds, g2 cap _ hc]
      · simp [Instr.sliceBounds, g2 cap _ hc, g4 h _ (Nat.le_refl _)]
  · cases um with
    | none => exact absurd hm (by simp [OptVR])
    | some u =>
      cases (show VR w σ F D (.int k h) u from hm)
      have hmx : ∀ code, (Instr.sliceBound (.int k (h : Int)) cap code).run P w = .ok h w := fun code => by
        simp [Instr.sliceBound, asIntOf, show (h : Int) ≤ (cap : Int) by omega]
      rcases g2 with ⟨rfl, rfl, rfl⟩ | ⟨u1, rfl, g2⟩
      · simp at hs
      · have g2' : ∀ code, (Instr.sliceBound u1 h code).run P w = .ok h w := fun code => by
          unfold bound at h1
          split at h1
          · simp at hs
          · rename_i k1 i1
            split at h1 <;> simp at h1
            rename_i hi1
            cases (show VR w σ F D (.int k1 i1) u1 from hh)
            simp [Instr.sliceBound, asIntOf, show 0 ≤ i1 ∧ i1 ≤ (h : Int) by omega, h1]
          · simp at h1
        rcases g4 with ⟨rfl, rfl, rfl⟩ | ⟨u2, rfl, g4⟩
        · simp [Instr.sliceBounds, hmx, g2']
        · simp [Instr.sliceBounds, hmx, g2', g4 h _ (Nat.le_refl _)]

theorem slice_sound {t e : TypeId} {esz : Nat} {lo hi mx : Option AV} {ul uh um : Option Value} (hr : Rel H D w σ F) (hA : ∀ id, hget A id = H id) (ht : P.underlying t = some (.slice e)) (hs : szT P e = some esz) (hx : VR w σ F D x ux)
    (hl : OptVR w σ F D lo ul) (hh : OptVR w σ F D hi uh) (hm : OptVR w σ F D mx um) (hw : wide A esz x = true) (h : sliceA x lo hi mx = some z) :
    ∃ r, (Instr.sliceAt t ux ul uh um).run P w = .ok r w ∧ VR w σ F D z r := by
  have run : ∀ {a : Option Addr} {len cap h l : Nat}, len ≤ cap → bound hi len len = some h → bound lo 0 h = some l → (mx = none ∨ ∃ k, mx = some (.int k h) ∧ hi.isSome = true) →
      (Instr.sliceAt t (.slice a len cap) ul uh um).run P w = .ok (.slice (if (if mx.isSome then h else cap) = l then a else a.map (·.add (l * esz))) (h - l) ((if mx.isSome then h else cap) - l)) w := by
    intro a len cap h l hc h1 h2 h3
    obtain ⟨b1, _, _⟩ := bounds_run (P := P) true hl hh hm hc h1 h2 h3
    simp only [Instr.sliceAt, Instr.slice, Sem.run_bind, run_underlying ht, Result.andThen_ok, b1, szT_run hs w, Sem.run_pure]
  unfold sliceA at h
  cases hx with
  | frz0 clip a cap hcl =>
    simp only [List.length_nil] at h
    split at h <;> (try (simp at h; done))
    rename_i hh1 h1
    split at h <;> (try (simp at h; done))
    rename_i l h2
    have hmx : (mx = none ∧ z = .frz [] (clip && decide (hh1 = 0))) ∨ (∃ k, mx = some (.int k hh1) ∧ hi.isSome = true ∧ z = .frz [] true) := by
      split at h
      · simp at h; exact .inl ⟨rfl, h.symm⟩
      · split at h <;> simp at h
        rename_i hmm; obtain ⟨rfl, hs2⟩ := hmm
        exact .inr ⟨_, rfl, hs2, h.symm⟩
      · simp at h
    obtain ⟨_, b2, b3⟩ := bounds_run (P := P) true hl hh hm (Nat.zero_le cap) h1 h2 (hmx.imp (fun h => h.1) fun ⟨k, a, b, _⟩ => ⟨k, a, b⟩)
    obtain rfl : hh1 = 0 := by omega
    obtain rfl : l = 0 := by omega
    refine ⟨_, run (Nat.zero_le cap) h1 h2 (hmx.imp (fun h => h.1) fun ⟨k, a, b, _⟩ => ⟨k, a, b⟩), ?_⟩
    rcases hmx with ⟨rfl, rfl⟩ | ⟨k, rfl, _, rfl⟩
    · exact .frz0 _ _ _ (fun hc => by have := hcl (by simpa using hc); simp [this])
    · exact .frz0 _ _ _ (fun _ => by simp)
  | frz1 es clip b off cap esz' f hc hcl hFb hs' hp hcell hmm hv =>
    simp only at h
    split at h <;> (try (simp at h; done))
    rename_i hh1 h1
    split at h <;> (try (simp at h; done))
    rename_i l h2
    have hmx : (mx = none ∧ z = .frz ((es.take hh1).drop l) (clip && decide (hh1 = es.length))) ∨ (∃ k, mx = some (.int k hh1) ∧ hi.isSome = true ∧ z = .frz ((es.take hh1).drop l) true) := by
      split at h
      · simp at h; exact .inl ⟨rfl, h.symm⟩
      · split at h <;> simp at h
        rename_i hmm; obtain ⟨rfl, hs2⟩ := hmm
        exact .inr ⟨_, rfl, hs2, h.symm⟩
      · simp at h
    have h3 := hmx.imp (fun h => h.1) fun ⟨k, a, b, _⟩ => (⟨k, a, b⟩ : ∃ k, mx = some (AV.int k hh1) ∧ hi.isSome = true)
    obtain ⟨_, b2, b3⟩ := bounds_run (P := P) true hl hh hm hc h1 h2 h3
    refine ⟨_, run hc h1 h2 h3, ?_⟩
    have hm0 : hh1 ≤ (if mx.isSome then hh1 else cap) := by split <;> omega
    have hlen : ((es.take hh1).drop l).length = hh1 - l := by simp; omega
    have key : ∀ clip' : Bool, (clip' = true → (if mx.isSome then hh1 else cap) = hh1) → VR w σ F D (.frz ((es.take hh1).drop l) clip')
        (.slice (if (if mx.isSome then hh1 else cap) = l then some ⟨b, off, none⟩ else (some (⟨b, off, none⟩ : Addr)).map (·.add (l * esz))) (hh1 - l) ((if mx.isSome then hh1 else cap) - l)) := by
      intro clip' hcc
      generalize (if mx.isSome then hh1 else cap) = m at *
      by_cases hml : m = l
      · have he : (es.take hh1).drop l = [] := List.length_eq_zero_iff.1 (by omega)
        rw [he, if_pos hml, show hh1 - l = 0 by omega]
        exact .frz0 _ _ _ (fun _ => by omega)
      · rw [if_neg hml]
        by_cases hne : hh1 = l
        · have he : (es.take hh1).drop l = [] := List.length_eq_zero_iff.1 (by omega)
          rw [he, show hh1 - l = 0 by omega]
          exact .frz0 _ _ _ (fun h => by have := hcc h; omega)
        · have hez : esz' = esz := by
            obtain ⟨e0, rest, rfl⟩ : ∃ e0 rest, es = e0 :: rest := by
              cases es with
              | nil => simp at b3; omega
              | cons a b => exact ⟨a, b, rfl⟩
            have := hs' e0 (by simp)
            simp [wide] at hw
            omega
          subst hez
          simp only [Option.map_some, addr_add]
          rw [← hlen]
          have hidx : ∀ (i : Nat) e, ((es.take hh1).drop l)[i]? = some e → es[l + i]? = some e := by
            intro i e he
            rw [List.getElem?_drop, List.getElem?_take] at he
            split at he <;> (try (simp at he; done))
            exact he
          have hmem : ∀ e ∈ (es.take hh1).drop l, e ∈ es := fun e he => List.mem_of_mem_take (List.mem_of_mem_drop he)
          refine .frz1 _ clip' b (off + l * esz') (m - l) esz' (fun i j => f (l + i) j) (by rw [hlen]; omega) (fun h => by have := hcc h; omega) hFb (fun e he => hs' e (hmem e he)) (fun e he => hp e (hmem e he)) (fun e he => hcell e (hmem e he)) ?_ ?_
          · intro i e j q hi hj
            have := hmm (l + i) e j q (hidx i e hi) hj
            rw [show off + l * esz' + i * esz' + j = off + (l + i) * esz' + j by rw [Nat.add_mul]; omega]
            exact this
          · intro i e j q hi hj
            exact hv (l + i) e j q (hidx i e hi) hj
    rcases hmx with ⟨rfl, rfl⟩ | ⟨k, rfl, _, rfl⟩
    · refine key _ (fun h => ?_)
      simp at h
      have := hcl h.1
      simp; omega
    · exact key true (fun _ => by simp)
  | own id off len cap clip a hid hc hcl ha hroom =>
    simp only at h
    split at h <;> (try (simp at h; done))
    rename_i hh1 h1
    split at h <;> (try (simp at h; done))
    rename_i l h2
    have hmx : (mx = none ∧ z = .own id (off + l) (hh1 - l) (clip && decide (hh1 = len))) ∨ (∃ k, mx = some (.int k hh1) ∧ hi.isSome = true ∧ z = .own id (off + l) (hh1 - l) true) := by
      split at h
      · simp at h; exact .inl ⟨rfl, h.symm⟩
      · split at h <;> simp at h
        rename_i hmm; obtain ⟨rfl, hs2⟩ := hmm
        exact .inr ⟨_, rfl, hs2, h.symm⟩
      · simp at h
    have h3 := hmx.imp (fun h => h.1) fun ⟨k, a, b, _⟩ => (⟨k, a, b⟩ : ∃ k, mx = some (AV.int k hh1) ∧ hi.isSome = true)
    obtain ⟨_, b2, b3⟩ := bounds_run (P := P) true hl hh hm hc h1 h2 h3
    refine ⟨_, run hc h1 h2 h3, ?_⟩
    have hm0 : hh1 ≤ (if mx.isSome then hh1 else cap) ∧ (if mx.isSome then hh1 else cap) ≤ cap := by split <;> omega
    have hez : σ.esz id = esz := by
      simp only [wide] at hw
      rw [hA id] at hw
      have hb := hr.br id
      cases hB : H id with
      | cells e' bs => rw [hB] at hw hb; simp at hw; rw [hb.1, hw]
      | _ => rw [hB] at hw; simp at hw
    have key : ∀ clip' : Bool, (clip' = true → (if mx.isSome then hh1 else cap) = hh1) → VR w σ F D (.own id (off + l) (hh1 - l) clip')
        (.slice (if (if mx.isSome then hh1 else cap) = l then a else a.map (·.add (l * esz))) (hh1 - l) ((if mx.isSome then hh1 else cap) - l)) := by
      intro clip' hcc
      generalize (if mx.isSome then hh1 else cap) = m at *
      refine .own id (off + l) (hh1 - l) (m - l) clip' _ hid (by omega) (fun h => by have := hcc h; omega) ?_ ?_
      · by_cases hml : m = l
        · left; omega
        · right
          rw [if_neg hml]
          rcases ha with h0 | rfl
          · omega
          · simp only [Option.map_some, addr_add, hez]
            rw [show σ.base id + off * esz + l * esz = σ.base id + (off + l) * esz by rw [Nat.add_mul]; omega]
      · rcases hroom with h0 | ⟨vs, T, fr, g1, g2⟩
        · left; omega
        · right
          refine ⟨vs, T, fr, g1, Nat.le_trans ?_ g2⟩
          apply Nat.add_le_add_left
          apply Nat.mul_le_mul_right
          omega
    rcases hmx with ⟨rfl, rfl⟩ | ⟨k, rfl, _, rfl⟩
    · refine key _ (fun h => ?_)
      simp at h
      have := hcl h.1
      simp; omega
    · exact key true (fun _ => by simp)
  | _ => simp at h

theorem sliceStr_sound {t : TypeId} {lo hi : Option AV} {ul uh : Option Value} (ht : P.underlying t = some .string) (hx : VR w σ F D x ux) (hl : OptVR w σ F D lo ul) (hh : OptVR w σ F D hi uh) (h : sliceStrA x lo hi = some z) :
    ∃ r, (Instr.sliceAt t ux ul uh none).run P w = .ok r w ∧ VR w σ F D z r := by
  unfold sliceStrA at h
  cases hx with
  | str s =>
    simp only at h
    split at h <;> (try (simp at h; done))
    rename_i hh1 h1
    split at h <;> simp at h
    rename_i l h2
    subst h
    obtain ⟨b1, _, _⟩ := bounds_run (P := P) (mx := none) (um := none) false hl hh trivial (Nat.le_refl s.size) h1 h2 (.inl rfl)
    refine ⟨_, ?_, .str _⟩
    simp only [Instr.sliceAt, Instr.slice, Sem.run_bind, run_underlying ht, Result.andThen_ok]
    simp [b1]
  | _ => simp at h

theorem idxS_sound {t e : TypeId} {esz : Nat} (hr : Rel H D w σ F) (hA : ∀ id, hget A id = H id) (ht : P.underlying t = some (.slice e)) (hs : szT P e = some esz) (hx : VR w σ F D x ux) (hy : VR w σ F D y uy) (h : idxSA A esz x y = some z) :
    ∃ r, (Instr.indexAt t ux uy).run P w = .ok r w ∧ VR w σ F D z r := by
  unfold idxSA at h
  split at h
  · rename_i es clip k j
    split at h <;> simp at h
    rename_i hc
    obtain ⟨h1, h2, h3⟩ := hc
    subst h
    cases hy
    cases hx with
    | frz0 => simp at h2; omega
    | frz1 _ _ b off cap esz' f hcap hcl hFb hs' hp hcell hm hv =>
      have hlt : j.toNat < es.length := by omega
      have hez : esz' = esz := by
        rw [← h3, ← hs' es[j.toNat] (List.getElem_mem hlt)]
        simp [List.getD, hlt]
      subst hez
      refine ⟨.pointer (some ⟨b, off + j.toNat * esz' + 0, none⟩), ?_, .fp es j.toNat 0 b off esz' f hFb hs' hp hcell hm hv⟩
      simp [Instr.indexAt, asIntOf, run_underlying ht, szT_run hs w, h1, h2, addr_add]
  · rename_i id off len clip k j
    cases hy
    split at h <;> (try (simp at h; done))
    rename_i e' bs hB
    split at h <;> simp at h
    rename_i hc
    obtain ⟨h1, h2, h3⟩ := hc
    subst h
    cases hx with
    | own _ _ _ cap _ a hid hcap hcl ha hroom =>
      have ha' : a = some ⟨σ.blk id, σ.base id + off * σ.esz id, none⟩ := ha.resolve_left (by omega)
      subst ha'
      have hez : σ.esz id = esz := by
        have hb := hr.br id
        rw [← hA id, hB] at hb
        rw [hb.1, h3]
      have := VR.ptr (w := w) (σ := σ) (F := F) (D := D) id (off + j.toNat) 0 hid
      refine ⟨_, ?_, this⟩
      simp only [hez, Nat.add_zero, Nat.add_mul]
      simp [Instr.indexAt, asIntOf, run_underlying ht, szT_run hs w, h1, h2, addr_add, Nat.add_assoc]
  · simp at h

theorem addOff_sound {k : Nat} (hx : VR w σ F D x ux) (h : addOffA x k = some z) : ∃ b o, ux = .pointer (some ⟨b, o, none⟩) ∧ VR w σ F D z (.pointer (some ⟨b, o + k, none⟩)) := by
  unfold addOffA at h
  cases hx <;> simp at h
  · subst h
    rename_i id i off hid
    refine ⟨_, _, rfl, ?_⟩
    have := VR.ptr (w := w) (σ := σ) (F := F) (D := D) id i (off + k) hid
    rw [← Nat.add_assoc] at this; exact this
  · subst h
    rename_i es i off b base esz f hFb hs' hp hcell hm hv
    refine ⟨_, _, rfl, ?_⟩
    have := VR.fp (w := w) (σ := σ) (F := F) (D := D) es i (off + k) b base esz f hFb hs' hp hcell hm hv
    rw [← Nat.add_assoc] at this; exact this

theorem idxA_sound {t e : TypeId} {len esz : Nat} (ht : P.underlying t = some (.array len e)) (hs : szT P e = some esz) (hx : VR w σ F D x ux) (hy : VR w σ F D y uy) (h : idxAA len esz x y = some z) :
    ∃ r, (Instr.indexAt t ux uy).run P w = .ok r w ∧ VR w σ F D z r := by
  unfold idxAA at h
  split at h <;> (try (simp at h; done))
  rename_i k j
  split at h <;> (try (simp at h; done))
  rename_i hc
  cases hy
  obtain ⟨b, o, rfl, hv⟩ := addOff_sound hx h
  refine ⟨_, ?_, hv⟩
  simp [Instr.indexAt, asIntOf, run_underlying ht, szT_run hs w, hc.1, hc.2, addr_add, Instr.sureAddr]

theorem idxV_sound {t e : TypeId} {g : Bool} {len esz : Nat} (ht : P.underlying t = some (.array len e)) (hg : agT P e = some g) (hs : szT P e = some esz) (hx : VR w σ F D x ux) (hy : VR w σ F D y uy) (h : idxVA g len esz x y = some z) :
    ∃ r, (Instr.index t ux uy).run P w = .ok r w ∧ VR w σ F D z r := by
  unfold idxVA at h
  split at h <;> (try (simp at h; done))
  rename_i cs k j
  split at h <;> (try (simp at h; done))
  rename_i hc
  cases hy
  cases hx with
  | agg _ us hl hcell hv =>
  obtain ⟨r, h1, h2⟩ := part_sound (P := P) (.agg cs us hl hcell hv) hg hs h
  refine ⟨r, ?_, h2⟩
  simp [Instr.index, asIntOf, run_underlying ht, szT_run hs w, hc.1, hc.2, h1]

theorem idxStr_sound {t : TypeId} (ht : P.underlying t = some .string) (hx : VR w σ F D x ux) (hy : VR w σ F D y uy) (h : idxStrA x y = some z) :
    ∃ r, (Instr.index t ux uy).run P w = .ok r w ∧ VR w σ F D z r := by
  unfold idxStrA at h
  split at h <;> (try (simp at h; done))
  rename_i s k j
  split at h <;> (try (simp at h; done))
  rename_i hc
  simp only [Option.map_eq_some_iff] at h
  obtain ⟨b, hb, rfl⟩ := h
  cases hy
  cases hx
  refine ⟨_, ?_, .int _ _⟩
  simp [Instr.index, asIntOf, run_underlying ht, hc, hb]

end Go.Abs

/- Maps. -/
namespace Go.Abs

variable {H H' : Nat → Blk} {D D' : Nat → Prop} {σ σ' : Sig} {F F' : Nat → Prop} {w w' : World} {v x y z : AV} {u ux uy : Value} {P : Program} {A : Heap}

theorem basicEq_self {k : KC} {b : Bool} (hx : VR w σ F D x ux) (hy : VR w σ F D y uy) (h : basicEq k x y = some b) : ∀ d, kcOf d = some k → Instr.sameNow d ux uy = some b := by
  intro d hd
  unfold kcOf at hd
  unfold basicEq at h
  split at hd <;> simp at hd <;> subst hd <;> split at h <;> (try simp at h) <;> (try contradiction) <;> cases hx <;> cases hy
  · obtain ⟨rfl, rfl⟩ := h; simp [Instr.sameNow]
  · subst h; simp [Instr.sameNow]
  · subst h; simp [Instr.sameNow, beq_toListBytes]

def CheckOk (P : Program) (w : World) (m : Nat) (t : TypeId) (ks : List KC) : Prop :=
  ∀ (em : Bool) (σ : Sig) (F D : Nat → Prop) (us : Array Value) (xs : List AV) (off : Nat), Cells w σ F D xs us → (flatEq ks ((xs.drop off).take ks.length) ((xs.drop off).take ks.length)).isSome = true →
    ∃ a, (part t us off).run P w = .ok a w ∧ (Instr.checkKey em m t a).run P w = .ok () w

theorem basic_check {k : KC} {d : TypeDesc} {t : TypeId} (hd : P.underlying t = some d) (hk : kcOf d = some k) (hx : VR w σ F D x ux) (h : (basicEq k x x).isSome = true) (em : Bool) (m : Nat) :
    (Instr.checkKey em (m + 1) t ux).run P w = .ok () w := by
  unfold kcOf at hk
  split at hk <;> simp at hk <;> subst hk <;> cases hx <;> simp [basicEq] at h <;> simp [Instr.checkKey, run_underlying hd]

theorem okKey_append (k1 k2 : List KC) (xs : List AV) (h : (flatEq (k1 ++ k2) xs xs).isSome = true) :
    (flatEq k1 (xs.take k1.length) (xs.take k1.length)).isSome = true ∧ (flatEq k2 (xs.drop k1.length) (xs.drop k1.length)).isSome = true := by
  obtain ⟨b, hb⟩ := Option.isSome_iff_exists.1 h
  obtain ⟨b1, b2, h1, h2, _⟩ := flatEq_append k1 k2 xs xs b hb
  exact ⟨by rw [h1]; rfl, by rw [h2]; rfl⟩

theorem check_fields {g : TypeId → Option (List KC)} {m : Nat} {em : Bool} (hg : ∀ t ks, g t = some ks → szT P t = some ks.length → CheckOk P w m t ks) (σ : Sig) (F D : Nat → Prop) (us : Array Value) (xs : List AV)
    (hx : Cells w σ F D xs us) : ∀ (fs : List Field) (off : Nat) (ks : List KC), flatFs P g fs off = some ks → (flatEq ks ((xs.drop off).take ks.length) ((xs.drop off).take ks.length)).isSome = true →
    (forIn fs PUnit.unit (fun f (_ : PUnit) => (do
      if f.name ≠ "_" then Instr.checkKey em m f.type (← part f.type us f.offset)
      pure (ForInStep.yield PUnit.unit) : Sem (ForInStep PUnit)))).run P w = .ok PUnit.unit w
  | [], off, ks, h, hb => by simp
  | f :: fs, off, ks, h, hb => by
    simp only [flatFs] at h
    split at h <;> (try (simp at h; done))
    rename_i hc
    simp at hc
    obtain ⟨hn, rfl⟩ := hc
    split at h <;> (try (simp at h; done))
    rename_i l hl
    split at h <;> (try (simp at h; done))
    rename_i hs
    simp only [Option.map_eq_some_iff] at h
    obtain ⟨ks2, hk2, rfl⟩ := h
    obtain ⟨e1, e2⟩ := okKey_append l ks2 _ hb
    rw [List.take_take] at e1
    simp only [List.length_append] at e1 e2
    rw [show min l.length (l.length + ks2.length) = l.length by omega] at e1
    rw [List.drop_take, List.drop_drop, show l.length + ks2.length - l.length = ks2.length by omega] at e2
    obtain ⟨a, p1, p2⟩ := hg f.type l hl hs em σ F D us xs f.offset hx e1
    have ih := check_fields (em := em) hg σ F D us xs hx fs (f.offset + l.length) ks2 hk2 e2
    rw [List.forIn_cons]
    simp only [Sem.run_bind]
    rw [if_pos hn]
    simp only [Sem.run_bind, p1, Result.andThen_ok, p2, Sem.run_pure]
    exact ih

theorem check_items {e : TypeId} {l : List KC} {m sz : Nat} {em : Bool} (hg : CheckOk P w m e l) (hsz : szT P e = some l.length) (σ : Sig) (F D : Nat → Prop) (us : Array Value) (xs : List AV)
    (hx : Cells w σ F D xs us) : ∀ (k j : Nat), (flatEq (List.replicate k l).flatten ((xs.drop (j * l.length)).take (k * l.length)) ((xs.drop (j * l.length)).take (k * l.length))).isSome = true →
    (forIn (List.range' j k) PUnit.unit (fun i (_ : PUnit) => (do
      Instr.checkKey em m e (← part e us (i * (← sizeOf e)))
      pure (ForInStep.yield PUnit.unit) : Sem (ForInStep PUnit)))).run P w = .ok PUnit.unit w
  | 0, j, hb => by simp
  | k + 1, j, hb => by
    rw [List.replicate_succ, List.flatten_cons] at hb
    obtain ⟨e1, e2⟩ := okKey_append l _ _ hb
    rw [List.take_take, show min l.length ((k + 1) * l.length) = l.length by rw [Nat.add_mul]; omega] at e1
    rw [List.drop_take, List.drop_drop, show (k + 1) * l.length - l.length = k * l.length by rw [Nat.add_mul]; omega,
      show j * l.length + l.length = (j + 1) * l.length by rw [Nat.add_mul]; omega] at e2
    obtain ⟨a, p1, p2⟩ := hg em σ F D us xs (j * l.length) hx e1
    have ih := check_items (sz := sz) (em := em) hg hsz σ F D us xs hx k (j + 1) e2
    rw [List.range'_succ, List.forIn_cons]
    simp only [Sem.run_bind, szT_run hsz w, Result.andThen_ok, p1, p2, Sem.run_pure]
    exact ih

theorem flat_check : ∀ (k m : Nat) (t : TypeId) (ks : List KC), flatT P k t = some ks → szT P t = some ks.length → CheckOk P w (k + m) t ks
  | 0, _, _, _, h, _ => by simp [flatT] at h
  | k + 1, m, t, ks, h, hs => by
    intro em σ F D us xs off hx hb
    simp only [flatT] at h
    split at h
    · rename_i fs hd
      split at h <;> (try (simp at h; done))
      have hag : agT P t = some true := by simp [agT, hd]
      refine ⟨.agg (us.extract off (off + ks.length)), ?_, ?_⟩
      · simp [part, agT_run hag w, szT_run hs w]
      · have := check_fields (P := P) (w := w) (em := em) (g := flatT P k) (m := k + m) (fun t' ks' h1 h2 => flat_check k m t' ks' h1 h2) σ F D _ _ (hx.extract off ks.length) fs.toList 0 ks h (by simpa [List.take_take] using hb)
        rw [show k + 1 + m = (k + m) + 1 by omega]
        simp only [Instr.checkKey, Sem.run_bind, run_underlying hd, Result.andThen_ok]
        rw [← Array.forIn_toList, this]
        rfl
    · rename_i n e hd
      split at h <;> (try (simp at h; done))
      rename_i l hl
      split at h <;> simp at h
      rename_i hse
      subst h
      have hag : agT P t = some true := by simp [agT, hd]
      have hlen : (List.replicate n l).flatten.length = n * l.length := by simp
      refine ⟨.agg (us.extract off (off + n * l.length)), ?_, ?_⟩
      · simp [part, agT_run hag w, szT_run hs w]
      · have := check_items (P := P) (w := w) (em := em) (sz := 0) (flat_check k m e l hl hse) hse σ F D _ _ (hx.extract off (n * l.length)) n 0 (by rw [hlen] at hb; simpa [List.take_take] using hb)
        rw [show k + 1 + m = (k + m) + 1 by omega]
        simp only [Instr.checkKey, Sem.run_bind, run_underlying hd, Result.andThen_ok]
        simp only [Std.Legacy.Range.forIn_eq_forIn_range', Std.Legacy.Range.size, Nat.sub_zero, Nat.add_one_sub_one, Nat.div_one]
        rw [this]
        rfl
    · rename_i d hns hna hd
      simp only [Option.map_eq_some_iff] at h
      obtain ⟨c, hc, rfl⟩ := h
      have hag : agT P t = some false := by simp only [agT, hd, Option.map_some]
      obtain ⟨b, hb'⟩ := Option.isSome_iff_exists.1 hb
      obtain ⟨l1, _⟩ := flatEq_len _ _ _ _ hb'
      simp only [List.length_singleton, List.length_take, List.length_drop] at l1 hb
      have hxo : off < xs.length := by omega
      rw [List.drop_eq_getElem_cons hxo] at hb
      simp only [List.take_succ_cons, List.take_zero, flatEq] at hb
      have hux : off < us.size := by rw [hx.1]; exact hxo
      refine ⟨us[off], by simp [part, agT_run hag w, hux], ?_⟩
      rw [show k + 1 + m = (k + m) + 1 by omega]
      refine basic_check hd hc (hx.2 off xs[off] us[off] (by simp [hxo]) (by simp [hux])) ?_ em (k + m)
      cases hbe : basicEq c xs[off] xs[off] with
      | none => simp [hbe] at hb
      | some _ => rfl
    · simp at h

theorem check_sound {t : TypeId} {ek : EqK} (ht : eqT P t = some ek) (hx : VR w σ F D x ux) (h : okKey ek x = true) (em : Bool) : (Instr.checkKey em 10000 t ux).run P w = .ok () w := by
  unfold okKey at h
  unfold eqT at ht
  have agg : ∀ {l : List KC}, flatT P 8 t = some l → szT P t = some l.length → ek = .many l → agT P t = some true → (Instr.checkKey em 10000 t ux).run P w = .ok () w := by
    intro l hl hs he hag
    subst he
    cases hx with
    | agg xs us hlx hcell hvx =>
      simp only [eqBy] at h
      obtain ⟨b, hb⟩ := Option.isSome_iff_exists.1 h
      obtain ⟨l1, _⟩ := flatEq_len _ _ _ _ hb
      obtain ⟨a, p1, p2⟩ := flat_check 8 9992 t l hl hs em σ F D us xs 0 ⟨hlx, hvx⟩ (by rw [List.drop_zero, List.take_of_length_le (by omega)]; exact h)
      simp only [part, Sem.run_bind, agT_run hag w, Result.andThen_ok, if_true, szT_run hs w, Sem.run_pure, Nat.zero_add] at p1
      have e1 : us.extract 0 l.length = us := by rw [show l.length = us.size by omega]; simp
      rw [e1] at p1
      simp at p1
      subst p1
      exact p2
    | _ => simp [eqBy] at h
  split at ht
  · rename_i fs hd
    split at ht <;> (try (simp at ht; done))
    split at ht <;> (try (simp at ht; done))
    rename_i l hl
    split at ht <;> simp at ht
    rename_i hs
    exact agg hl hs ht.symm (by simp [agT, hd])
  · rename_i n e hd
    split at ht <;> (try (simp at ht; done))
    split at ht <;> (try (simp at ht; done))
    rename_i l hl
    split at ht <;> simp at ht
    rename_i hs
    exact agg hl hs ht.symm (by simp [agT, hd])
  · rename_i d hns hna hd
    simp only [Option.map_eq_some_iff] at ht
    obtain ⟨c, hc, rfl⟩ := ht
    exact basic_check hd hc hx h em 9999
  · simp at ht

/-- Entries read as abstract ones. -/
def Ents (w : World) (σ : Sig) (F D : Nat → Prop) (es : List (AV × AV)) (ms : List MapEntry) : Prop :=
  ms.length = es.length ∧ ∀ (i : Nat) e m, es[i]? = some e → ms[i]? = some m → VR w σ F D e.1 m.key ∧ VR w σ F D e.2 m.val

theorem Ents.tail {e : AV × AV} {es : List (AV × AV)} {m : MapEntry} {ms : List MapEntry} (h : Ents w σ F D (e :: es) (m :: ms)) : (VR w σ F D e.1 m.key ∧ VR w σ F D e.2 m.val) ∧ Ents w σ F D es ms :=
  ⟨h.2 0 e m rfl rfl, by simpa using h.1, fun i a b ha hb => h.2 (i + 1) a b (by simpa using ha) (by simpa using hb)⟩

theorem findAsking_sound {t : TypeId} {ek : EqK} (ht : eqT P t = some ek) (hx : VR w σ F D x ux) : ∀ (es : List (AV × AV)) (ms : List MapEntry) (i : Nat) (r : Option (Nat × AV)), Ents w σ F D es ms → findA ek x es i = some r →
    ∃ r', (Instr.findAsking t ux ms i).run P w = .ok r' w ∧ (match r, r' with | none, none => True | some (k, a), some (k', b) => k = k' ∧ VR w σ F D a b ∧ ∃ e, es[k - i]? = some e ∧ i ≤ k ∧ eqBy ek x e.1 = some true | _, _ => False)
  | [], [], i, r, _, h => by simp [findA] at h; subst h; exact ⟨none, rfl, trivial⟩
  | [], _ :: _, _, _, he, _ => by have := he.1; simp at this
  | _ :: _, [], _, _, he, _ => by have := he.1; simp at this
  | e :: es, m :: ms, i, r, he, h => by
    obtain ⟨⟨hk, hv⟩, ht'⟩ := he.tail
    simp only [findA] at h
    split at h <;> (try (simp at h; done))
    · rename_i hb
      simp at h; subst h
      refine ⟨some (i, m.val), ?_, rfl, hv, e, by simp, Nat.le_refl _, hb⟩
      simp [Instr.findAsking, eqBy_sound ht hx hk hb]
    · rename_i hb
      obtain ⟨r', h1, h2⟩ := findAsking_sound ht hx es ms (i + 1) r ht' h
      refine ⟨r', by simp [Instr.findAsking, eqBy_sound ht hx hk hb, h1], ?_⟩
      cases r with
      | none => cases r' with
        | none => trivial
        | some _ => exact h2.elim
      | some p => cases r' with
        | none => exact h2.elim
        | some q =>
          obtain ⟨q1, q2, e', q3, q4, q5⟩ := h2
          refine ⟨q1, q2, e', ?_, by omega, q5⟩
          rw [show p.1 - i = (p.1 - (i + 1)) + 1 by omega]
          simpa using q3

end Go.Abs

/- Maps: look-ups and stores. -/
namespace Go.Abs

variable {H H' : Nat → Blk} {D D' : Nat → Prop} {σ σ' : Sig} {F F' : Nat → Prop} {w w' : World} {v x y z : AV} {u ux uy : Value} {P : Program} {A : Heap}

/-- What a search has found. -/
def Found (w : World) (σ : Sig) (F D : Nat → Prop) (ek : EqK) (x : AV) (es : List (AV × AV)) (i : Nat) (r : Option (Nat × AV)) (r' : Option (Nat × Value)) : Prop :=
  match r, r' with
  | none, none => True
  | some (k, a), some (k', b) => k = k' ∧ VR w σ F D a b ∧ ∃ e, es[k - i]? = some e ∧ i ≤ k ∧ eqBy ek x e.1 = some true
  | _, _ => False

theorem Found.cons {ek : EqK} {e0 : AV × AV} {es : List (AV × AV)} {i : Nat} {r : Option (Nat × AV)} {r' : Option (Nat × Value)} (h : Found w σ F D ek x es (i + 1) r r') : Found w σ F D ek x (e0 :: es) i r r' := by
  cases r with
  | none => cases r' with
    | none => trivial
    | some _ => exact h.elim
  | some p => cases r' with
    | none => exact h.elim
    | some q =>
      obtain ⟨q1, q2, e', q3, q4, q5⟩ := h
      refine ⟨q1, q2, e', ?_, by omega, q5⟩
      rw [show p.1 - i = (p.1 - (i + 1)) + 1 by omega]
      simpa using q3

theorem findNow_sound {d : TypeDesc} {c : KC} (hd : kcOf d = some c) (hx : VR w σ F D x ux) : ∀ (es : List (AV × AV)) (ms : List MapEntry) (i : Nat) (r : Option (Nat × AV)), Ents w σ F D es ms → findA (.one c) x es i = some r →
    ∃ r', Instr.findNow d ux ms i = some r' ∧ Found w σ F D (.one c) x es i r r'
  | [], [], i, r, _, h => by simp [findA] at h; subst h; exact ⟨none, rfl, trivial⟩
  | [], _ :: _, _, _, he, _ => by have := he.1; simp at this
  | _ :: _, [], _, _, he, _ => by have := he.1; simp at this
  | e :: es, m :: ms, i, r, he, h => by
    obtain ⟨⟨hk, hv⟩, ht'⟩ := he.tail
    simp only [findA] at h
    split at h <;> (try (simp at h; done))
    · rename_i hb
      simp at h; subst h
      refine ⟨some (i, m.val), ?_, rfl, hv, e, by simp, Nat.le_refl _, hb⟩
      simp [Instr.findNow, basicEq_self hx hk hb d hd]
    · rename_i hb
      obtain ⟨r', h1, h2⟩ := findNow_sound hd hx es ms (i + 1) r ht' h
      exact ⟨r', by simp [Instr.findNow, basicEq_self hx hk hb d hd, h1], h2.cons⟩

theorem findKey_sound {t : TypeId} {ek : EqK} (ht : eqT P t = some ek) (hx : VR w σ F D x ux) (hok : okKey ek x = true) {es : List (AV × AV)} {ms : List MapEntry} {r : Option (Nat × AV)} (he : Ents w σ F D es ms) (h : findA ek x es 0 = some r) :
    ∃ r', (Instr.findKey t ux ms).run P w = .ok r' w ∧ Found w σ F D ek x es 0 r r' := by
  obtain ⟨r1, h1, h2⟩ := findAsking_sound ht hx es ms 0 r he h
  have hask : ∀ d, P.underlying t = some d → Instr.findNow d ux ms 0 = none → ∃ r', (Instr.findKey t ux ms).run P w = .ok r' w ∧ Found w σ F D ek x es 0 r r' := by
    intro d hd hn
    exact ⟨r1, by simp [Instr.findKey, run_underlying hd, hn, h1], h2⟩
  have many : ∀ d l, P.underlying t = some d → ek = .many l → ∃ r', (Instr.findKey t ux ms).run P w = .ok r' w ∧ Found w σ F D ek x es 0 r r' := by
    intro d l hd hek
    subst hek
    cases hx with
    | agg xs us hl hcell hv =>
      cases ms with
      | nil =>
        have : es = [] := List.length_eq_zero_iff.1 (by have := he.1; simpa using this.symm)
        subst this
        simp [findA] at h; subst h
        exact ⟨none, by simp [Instr.findKey, run_underlying hd, Instr.findNow], trivial⟩
      | cons m ms =>
        refine hask d hd ?_
        have : ∀ k, Instr.sameNow d (.agg us) k = none := by intro k; cases d <;> cases k <;> rfl
        simp [Instr.findNow, this]
    | _ => simp [okKey, eqBy] at hok
  unfold eqT at ht
  split at ht
  · rename_i fs hd
    split at ht <;> (try (simp at ht; done))
    split at ht <;> (try (simp at ht; done))
    split at ht <;> simp at ht
    exact many _ _ hd ht.symm
  · rename_i n e hd
    split at ht <;> (try (simp at ht; done))
    split at ht <;> (try (simp at ht; done))
    split at ht <;> simp at ht
    exact many _ _ hd ht.symm
  · rename_i d hns hna hd
    simp only [Option.map_eq_some_iff] at ht
    obtain ⟨c, hc, rfl⟩ := ht
    obtain ⟨r', g1, g2⟩ := findNow_sound hc hx es ms 0 r he h
    exact ⟨r', by simp [Instr.findKey, run_underlying hd, g1], g2⟩
  · simp at ht

theorem lookup_sound {t k e : TypeId} {ek : EqK} {zero : AV} {ok : Bool} (hr : Rel H D w σ F) (hA : ∀ id, hget A id = H id) (ht : P.underlying t = some (.map k e)) (hek : eqT P k = some ek) (hz : zeT P e = some zero)
    (hx : VR w σ F D x ux) (hy : VR w σ F D y uy) (h : lookupA A ek zero ok x y = some z) : ∃ r, (Instr.lookup t ux uy ok).run P w = .ok r w ∧ VR w σ F D z r := by
  unfold lookupA at h
  split at h <;> (try (simp at h; done))
  rename_i es hes
  split at h <;> (try (simp at h; done))
  rename_i hok
  obtain ⟨zc, hz1, hz2⟩ := zeT_run hz w
  have tup : ∀ {a : AV} {b : Value} (c : Bool), VR w σ F D a b → VR w σ F D (.tuple [a, .bool c]) (.tuple #[b, .bool c]) := by
    intro a b c hab
    refine .tuple _ _ rfl (fun i q uq hq hu => ?_)
    match i with
    | 0 => simp at hq hu; subst hq; subst hu; exact hab
    | 1 => simp at hq hu; subst hq; subst hu; exact .bool c
    | i + 2 => simp at hq
  have fin : ∀ (ms : Array MapEntry), Ents w σ F D es ms.toList → ∃ r, (do
      Instr.checkKey ms.isEmpty 10000 k uy
      let (v, okk) ← match ← Instr.findKey k uy ms.toList with
        | some (_, v) => pure (v, true)
        | none => pure (← zeroValue e, false)
      pure (if ok then .tuple #[v, .bool okk] else v) : Sem Value).run P w = .ok r w ∧ VR w σ F D z r := by
    intro ms he
    split at h <;> (try (simp at h; done))
    · rename_i q1 v1 hf
      obtain ⟨r', g1, g2⟩ := findKey_sound hek hy hok he hf
      cases r' with
      | none => exact g2.elim
      | some p =>
        obtain ⟨_, g3, _⟩ := g2
        simp only [Sem.run_bind, check_sound hek hy hok ms.isEmpty, Result.andThen_ok, g1, Sem.run_pure]
        cases ok <;> simp at h <;> subst h
        · exact ⟨_, rfl, g3⟩
        · exact ⟨_, rfl, tup true g3⟩
    · rename_i hf
      obtain ⟨r', g1, g2⟩ := findKey_sound hek hy hok he hf
      cases r' with
      | some p => exact g2.elim
      | none =>
        simp only [Sem.run_bind, check_sound hek hy hok ms.isEmpty, Result.andThen_ok, g1, hz1, Sem.run_pure]
        cases ok <;> simp at h <;> subst h
        · exact ⟨_, rfl, constA_sound 8 zc zero hz2⟩
        · exact ⟨_, rfl, tup false (constA_sound 8 zc zero hz2)⟩
  cases hx with
  | nilm =>
    simp [mapEntries] at hes; subst hes
    obtain ⟨r, g1, g2⟩ := fin #[] ⟨rfl, fun i a b ha => by simp at ha⟩
    refine ⟨r, ?_, g2⟩
    simp only [Instr.lookup, Sem.run_bind, run_underlying ht, Result.andThen_ok, Sem.run_pure]
    simp only [Sem.run_bind] at g1
    exact g1
  | map id hid =>
    simp only [mapEntries] at hes
    rw [hA id] at hes
    have hb := hr.br id
    cases hB : H id with
    | map bs =>
      rw [hB] at hes hb
      simp at hes; subst hes
      obtain ⟨ms, clock, b1, b2, b3⟩ := hb
      obtain ⟨r, g1, g2⟩ := fin ms ⟨by simpa using b2, fun i a b ha hb' => b3 i a b ha (by simpa using hb')⟩
      refine ⟨r, ?_, g2⟩
      simp only [Instr.lookup, Sem.run_bind, run_underlying ht, Result.andThen_ok, getObj, Sem.run, b1, Sem.run_pure]
      simp only [Sem.run_bind] at g1
      exact g1
    | _ => rw [hB] at hes; simp at hes
  | _ => simp [mapEntries] at hes

theorem sameBits_basic {c : KC} {n : Nat} (hx : VR w σ F D x ux) (hy : VR w σ F D y uy) (h : basicEq c x y = some true) : Instr.sameBits n uy ux = true := by
  unfold basicEq at h
  split at h <;> (try simp at h) <;> cases hx <;> cases hy
  · obtain ⟨rfl, rfl⟩ := h; cases n <;> simp [Instr.sameBits]
  · subst h; cases n <;> simp [Instr.sameBits]
  · rename_i p q
    cases n <;> simp [Instr.sameBits, beq_toListBytes, h]

theorem flatEq_all : ∀ (ks : List KC) (xs ys : List AV), flatEq ks xs ys = some true → ∀ (i : Nat) a b, xs[i]? = some a → ys[i]? = some b → ∃ c, basicEq c a b = some true
  | [], xs, ys, h, i, a, b, ha, _ => by cases xs <;> cases ys <;> simp [flatEq] at h ha
  | k :: ks, xs, ys, h, i, a, b, ha, hb => by
    cases xs with
    | nil => simp at ha
    | cons x xs => cases ys with
      | nil => simp at hb
      | cons y ys =>
        simp only [flatEq] at h
        split at h <;> simp at h
        rename_i p q hp hq
        obtain ⟨rfl, rfl⟩ := h
        cases i with
        | zero => simp at ha hb; subst ha; subst hb; exact ⟨k, hp⟩
        | succ i => exact flatEq_all ks xs ys hq i a b (by simpa using ha) (by simpa using hb)

theorem sameBits_sound {ek : EqK} (hx : VR w σ F D x ux) (hy : VR w σ F D y uy) (h : eqBy ek x y = some true) : Instr.sameBits 10000 uy ux = true := by
  unfold eqBy at h
  split at h <;> (try (simp at h; done))
  · exact sameBits_basic hx hy h
  · rename_i ks xs ys
    cases hx with
    | agg _ us hl _ hv =>
    cases hy with
    | agg _ vs hl2 _ hv2 =>
    obtain ⟨l1, l2⟩ := flatEq_len _ _ _ _ h
    show Instr.sameBits (9999 + 1) (.agg vs) (.agg us) = true
    simp only [Instr.sameBits, Bool.and_eq_true, beq_iff_eq, List.all_eq_true]
    refine ⟨by omega, fun p hp => ?_⟩
    obtain ⟨i, hi⟩ := List.getElem?_of_mem hp
    rw [List.getElem?_zip_eq_some] at hi
    obtain ⟨i1, i2⟩ := hi
    have j1 : vs[i]? = some p.1 := by simpa using i1
    have j2 : us[i]? = some p.2 := by simpa using i2
    have k1 : i < ys.length := by have := getElem?_size j1; omega
    have k2 : i < xs.length := by have := getElem?_size j2; omega
    obtain ⟨c, hc⟩ := flatEq_all ks xs ys h i xs[i] ys[i] (by simp [k2]) (by simp [k1])
    exact sameBits_basic (hv i xs[i] p.2 (by simp [k2]) j2) (hv2 i ys[i] p.1 (by simp [k1]) j1) hc

theorem mapSet_sound {t k e : TypeId} {ek : EqK} {id nid : Nat} {B : Blk} (hr : Rel H D w σ F) (hn : ∀ id, D id → D' id) (hA : ∀ id, hget A id = H id) (ht : P.underlying t = some (.map k e)) (hek : eqT P k = some ek)
    {m : AV} {um : Value} (hm : VR w σ F D m um) (hx : VR w σ F D x ux) (hy : VR w σ F D y uy) (h : mapSetA A ek m x y = some (id, B)) :
    ∃ w', (Instr.mapUpdate t um ux uy).run P w = .ok () w' ∧ Made H D σ F w nid D' ⟨undefA, [(id, B)], none⟩ Go.undef w' := by
  unfold mapSetA at h
  split at h <;> (try (simp at h; done))
  rename_i id'
  rw [hA id'] at h
  cases hm with
  | map _ hid =>
  have hb := hr.br id'
  cases hB : H id' with
  | map es =>
    rw [hB] at h hb
    simp only at h
    split at h <;> (try (simp at h; done))
    rename_i hok
    obtain ⟨ms, clock, b1, b2, b3⟩ := hb
    have hents : Ents w σ F D es ms.toList := ⟨by simpa using b2, fun i a b ha hb' => b3 i a b ha (by simpa using hb')⟩
    have hl : (H id').live = true := by rw [hB]; rfl
    have put : ∀ (es' : List (AV × AV)) (ms' : Array MapEntry) (clock' : Nat), ms'.size = es'.length → (∀ (i : Nat) a b, es'[i]? = some a → ms'[i]? = some b → VR w σ F D a.1 b.key ∧ VR w σ F D a.2 b.val) →
        Step H D σ F w (upd1 H id' (.map es')) D' σ F { w with heap := w.heap.setIfInBounds (σ.blk id') (.map ms' clock') } := by
      intro es' ms' clock' hs hv
      have hlt : σ.blk id' < w.heap.size := getElem?_size b1
      refine (Step.setObj (o := .map ms clock) hr hl b1 (by intros; simp) (by intro r h; cases h) ?_).more hn
      refine ⟨ms', clock', by simp [hlt], hs, fun i a b ha hb' => ?_⟩
      have hne : ∀ b, F b → b ≠ σ.blk id' := fun b hb e => hr.apart b hb ⟨id', hl, e.symm⟩
      have cr : ∀ {p : AV} {q : Value}, VR w σ F D p q → VR { w with heap := w.heap.setIfInBounds (σ.blk id') (.map ms' clock') } σ F D p q := by
        intro p q hpq
        refine hpq.carry (fun _ h => h) (fun b hb => Array.getElem?_setIfInBounds_ne (Ne.symm (hne b hb))) (fun b vs T fr hbb => ⟨vs, ?_, rfl⟩) (fun _ _ => rfl) (fun _ h => h)
        have : b ≠ σ.blk id' := by intro e; subst e; rw [b1] at hbb; cases hbb
        show (w.heap.setIfInBounds _ _)[b]? = _
        rw [Array.getElem?_setIfInBounds_ne (Ne.symm this)]; exact hbb
      exact ⟨cr (hv i a b ha hb').1, cr (hv i a b ha hb').2⟩
    split at h <;> (try (simp at h; done))
    · rename_i q i v1 hf
      simp at h
      obtain ⟨rfl, rfl⟩ := h
      obtain ⟨r', g1, g2⟩ := findKey_sound hek hx hok hents hf
      cases r' with
      | none => exact g2.elim
      | some p =>
        obtain ⟨rfl, g3, e', g4, _, g5⟩ := g2
        simp only [Nat.sub_zero] at g4
        have hi : p.1 < ms.size := by rw [b2]; exact (List.getElem?_eq_some_iff.1 g4).1
        have hkey := (b3 p.1 e' ms[p.1] g4 (by simp [hi])).1
        have hsb := sameBits_sound hx hkey g5
        refine ⟨{ w with heap := w.heap.setIfInBounds (σ.blk id') (.map (ms.modify p.1 fun e => { e with key := ux, val := uy }) clock) }, ?_, σ, F, VR.undef, ?_⟩
        · simp only [Instr.mapUpdate, Sem.run_bind, run_underlying ht, Result.andThen_ok, getObj, Sem.run, b1, check_sound hek hx hok false, g1]
          simp [Instr.keyThatStays, hi, hsb, setObj, Sem.run, b1]
        · refine put _ _ _ (by simp [b2]) (fun j a b ha hb' => ?_)
          rw [Array.getElem?_modify] at hb'
          by_cases hj : p.1 = j
          · subst hj
            rw [List.getElem?_set_self (by rw [← b2]; exact hi)] at ha
            simp at ha; subst ha
            simp [hi] at hb'; subst hb'
            exact ⟨hx, hy⟩
          · rw [List.getElem?_set_ne hj] at ha
            rw [if_neg hj] at hb'
            exact b3 j a b ha hb'
    · rename_i q hf
      simp at h
      obtain ⟨rfl, rfl⟩ := h
      obtain ⟨r', g1, g2⟩ := findKey_sound hek hx hok hents hf
      cases r' with
      | some p => exact g2.elim
      | none =>
        refine ⟨{ w with heap := w.heap.setIfInBounds (σ.blk id') (.map (ms.push { key := ux, val := uy, born := clock }) (clock + 1)) }, ?_, σ, F, VR.undef, ?_⟩
        · simp only [Instr.mapUpdate, Sem.run_bind, run_underlying ht, Result.andThen_ok, getObj, Sem.run, b1, check_sound hek hx hok false, g1]
          simp [setObj, Sem.run, b1]
        · refine put _ _ _ (by simp [b2]) (fun j a b ha hb' => ?_)
          by_cases hj : j < es.length
          · rw [List.getElem?_append_left hj] at ha
            rw [Array.getElem?_push, if_neg (by omega)] at hb'
            exact b3 j a b ha hb'
          · rw [List.getElem?_append_right (by omega)] at ha
            have : j = es.length := by
              rcases Nat.lt_or_ge (j - es.length) 1 with h | h
              · omega
              · rw [List.getElem?_eq_none (by simpa using h)] at ha; simp at ha
            subst this
            simp at ha; subst ha
            rw [Array.getElem?_push, if_pos b2.symm] at hb'
            simp at hb'; subst hb'
            exact ⟨hx, hy⟩
  | _ => rw [hB] at h; simp at h

end Go.Abs

/- New slices, copies, clears, iterators over strings. -/
namespace Go.Abs

variable {H H' : Nat → Blk} {D D' : Nat → Prop} {σ σ' : Sig} {F F' : Nat → Prop} {w w' : World} {v x y z : AV} {u ux uy : Value} {P : Program} {A : Heap}

theorem Holds.replicate {zc : Value} {zero : AV} (hz : VR w σ F D zero zc) (hc : zero.cells.all AV.isCell = true) (n m : Nat) (hm : n * zero.cells.length ≤ m) :
    Holds w σ F D (List.replicate n zero) ((Array.range m).map (zc.cells[· % zc.cells.size]!)) 0 zero.cells.length := by
  obtain ⟨c1, c2, _⟩ := cells_sound hz hc
  intro i e j x hi hj
  rw [List.getElem?_replicate] at hi
  split at hi <;> simp at hi
  rename_i hin
  subst hi
  have hjl : j < zero.cells.length := (List.getElem?_eq_some_iff.1 hj).1
  have hlt : i * zero.cells.length + j < m := by
    have : (i + 1) * zero.cells.length ≤ n * zero.cells.length := Nat.mul_le_mul_right _ hin
    rw [Nat.add_mul] at this; omega
  have hmod : (i * zero.cells.length + j) % zc.cells.size = j := by
    rw [c1, Nat.mul_comm, Nat.mul_add_mod, Nat.mod_eq_of_lt hjl]
  refine ⟨zc.cells[j]'(by omega), ?_, c2 j x _ hj (by simp [show j < zc.cells.size by omega])⟩
  simp only [Nat.zero_add, Array.getElem?_map, Array.getElem?_range, hlt, if_true, Option.map_some, hmod]
  rw [getElem!_pos zc.cells j (by omega)]

theorem Elems.replicate {zero : AV} (hc : zero.cells.all AV.isCell = true) (n : Nat) : Elems (List.replicate n zero) zero.cells.length :=
  ⟨fun e he => by rw [(List.mem_replicate.1 he).2], fun e he q hq => by rw [(List.mem_replicate.1 he).2] at hq; exact List.all_eq_true.1 hc q hq⟩

theorem mkSlice_sound {t e : TypeId} {esz bytes nid : Nat} {zero : AV} {out : Out} (hr : Rel H D w σ F) (hn : ∀ id, D id → D' id) (hfree : Free H D D' nid) (ht : P.underlying t = some (.slice e))
    (hs : szT P e = some esz) (hb : byT P e = some bytes) (hz : zeT P e = some zero) (hx : VR w σ F D x ux) (hy : VR w σ F D y uy) (h : mkSliceA nid esz bytes zero x y = some out) :
    ∃ r w', (Instr.makeSlice t ux uy).run P w = .ok r w' ∧ Made H D σ F w nid D' out r w' := by
  unfold mkSliceA at h
  split at h <;> (try (simp at h; done))
  rename_i k l j c
  split at h <;> simp at h
  rename_i hc
  obtain ⟨h1, h2, h3, h4, h5, h6⟩ := hc
  subst h
  cases hx
  cases hy
  obtain ⟨zc, hz1, hz2⟩ := zeT_run hz w
  obtain ⟨i, hi1, hi2⟩ := byT_run hb w
  have hvr : VR w σ F D zero zc := constA_sound 8 zc zero hz2
  have w1 : IntKind.i64.wrap l = l := by simp [IntKind.wrap, IntKind.bits, IntKind.signed]; omega
  have w2 : IntKind.i64.wrap c = c := by simp [IntKind.wrap, IntKind.bits, IntKind.signed]; omega
  have hcn : c.toNat * zero.cells.length = c.toNat * esz := by rw [h5]
  let n := c.toNat * esz
  let row : Array Value := (Array.range n).map ((if n = 0 then (#[] : Array Value) else zc.cells)[· % (if n = 0 then (#[] : Array Value) else zc.cells).size]!)
  have hrow : row.size = n := by simp [row]
  refine ⟨.slice (some ⟨w.heap.size, 0, none⟩) l.toNat c.toNat, { w with heap := w.heap.push (.cells row e) }, ?_, ?_⟩
  · have htl : ∀ q : Int, 0 ≤ q → q ≤ c → ¬ ((decide (q < 0) || decide ((i.bytes : Int) * q > 2 ^ 48)) = true) := by
      intro q hq1 hq2
      simp only [Bool.or_eq_true, decide_eq_true_eq]
      intro hh
      have hq : (i.bytes : Int) * q ≤ (bytes : Int) * c := by rw [hi2]; exact Int.mul_le_mul_of_nonneg_left hq2 (by omega)
      have hm : (bytes : Int) * c ≤ 140737488355328 := by rw [Int.mul_comm]; exact h3
      omega
    simp only [Instr.makeSlice, Sem.run_bind, run_underlying ht, Result.andThen_ok, asInt, asIntOf, Sem.run_pure, hi1, w1, w2]
    rw [if_neg (by have := htl c (by omega) (Int.le_refl _); simp only [Bool.or_eq_true, decide_eq_true_eq] at this ⊢; omega)]
    simp only [Sem.run_bind, Result.andThen_ok, run_askRoom, szT_run hs w]
    by_cases hn0 : c.toNat * esz = 0
    · simp only [hn0, if_true]
      simp [newRow, newObj, Sem.run, row, n, hn0]
    · simp only [hn0, if_false, Sem.run_bind, hz1, Sem.run_pure, Result.andThen_ok]
      simp [newRow, newObj, Sem.run, row, n, hn0]
  · refine ⟨_, F, VR.own_new (w := w) (σ := σ) hfree.2.1 (by omega) (by simp; omega) (by rw [hrow]; exact Nat.le_refl _), ?_⟩
    refine Step.row hr hn hfree.1 hfree.2.1 hfree.2.2 e ?_ ?_
    · rw [← h5]; exact Elems.replicate h6 _
    · by_cases hn0 : c.toNat * esz = 0
      · intro p e' q a hp hq
        have hp' : p < c.toNat := by have := (List.getElem?_eq_some_iff.1 hp).1; simpa using this
        have he' : e' = zero := by rw [List.getElem?_replicate, if_pos hp'] at hp; simpa using hp.symm
        subst he'
        have hq' : q < esz := by rw [← h5]; exact (List.getElem?_eq_some_iff.1 hq).1
        rcases Nat.mul_eq_zero.1 hn0 with h | h <;> omega
      · have := Holds.replicate hvr h6 c.toNat n (by rw [hcn]; exact Nat.le_refl _)
        rw [h5] at this
        simpa [row, n, hn0] using this

theorem len_sound {k : LK} {t : TypeId} {d : TypeDesc} {at1 : Array TypeId} {ty : TypeId} (hr : Rel H D w σ F) (hA : ∀ id, hget A id = H id) (ht : P.underlying t = some d) (hd : match k, d with | .str, .string => True | .slice, .slice _ => True | .map, .map _ _ => True | _, _ => False)
    (hat : at1[0]? = some t) (hx : VR w σ F D x ux) (h : lenA A k x = some z) : ∃ r, (Builtin.len_ at1 ty #[ux]).run P w = .ok r w ∧ VR w σ F D z r := by
  unfold lenA at h
  split at h <;> (try (simp at h; done)) <;> cases d <;> simp at hd
  · simp at h; subst h; cases hx
    exact ⟨_, by simp [Builtin.len_, hat, run_underlying ht, goInt], .int _ _⟩
  · simp at h; subst h; cases hx
    · exact ⟨_, by simp [Builtin.len_, hat, run_underlying ht, goInt], .int _ _⟩
    · exact ⟨_, by simp [Builtin.len_, hat, run_underlying ht, goInt], .int _ _⟩
  · simp at h; subst h; cases hx
    exact ⟨_, by simp [Builtin.len_, hat, run_underlying ht, goInt], .int _ _⟩
  · simp at h; subst h; cases hx
    exact ⟨_, by simp [Builtin.len_, hat, run_underlying ht, goInt], .int _ _⟩
  · rename_i id _ _
    rw [hA id] at h
    have hb := hr.br id
    cases hB : H id with
    | map es =>
      rw [hB] at h hb
      simp at h; subst h
      cases hx
      obtain ⟨ms, clock, b1, b2, b3⟩ := hb
      refine ⟨_, ?_, .int _ _⟩
      simp [Builtin.len_, hat, run_underlying ht, getObj, Sem.run, b1, goInt, b2]
    | _ => rw [hB] at h; simp at h

/-- 'clear', of a slice. -/
theorem clearS_sound {t e : TypeId} {esz nid : Nat} {at1 : Array TypeId} {ty : TypeId} {zero : AV} {out : Out} (hr : Rel H D w σ F) (hn : ∀ id, D id → D' id) (hA : ∀ id, hget A id = H id) (hat : at1[0]? = some t) (ht : P.underlying t = some (.slice e))
    (hz : zeT P e = some zero) (hx : VR w σ F D x ux) (h : clearA A esz zero x = some out) :
    ∃ r w', (Builtin.clear_ at1 ty #[ux]).run P w = .ok r w' ∧ Made H D σ F w nid D' out r w' := by
  have triv : out = ⟨.tuple [], [], none⟩ → (∃ a c, ux = .slice a 0 c) → ∃ r w', (Builtin.clear_ at1 ty #[ux]).run P w = .ok r w' ∧ Made H D σ F w nid D' out r w' := by
    rintro rfl ⟨a, c, rfl⟩
    refine ⟨.tuple #[], w, ?_, σ, F, VR.undef, (Step.refl hr).more hn⟩
    cases a <;> simp [Builtin.clear_, hat, run_underlying ht]
  unfold clearA at h
  split at h <;> (try (simp at h; done))
  · simp [just] at h
    cases hx
    · exact triv h.symm ⟨_, _, rfl⟩
    · exact triv h.symm ⟨_, _, rfl⟩
  · simp [just] at h
    cases hx
    exact triv h.symm ⟨_, _, rfl⟩
  · rename_i id off len clip _
    split at h <;> (try (simp at h; done))
    rename_i ew es hB0
    split at h <;> simp at h
    rename_i hc
    obtain ⟨rfl, hpos, hle, hzl, hzc⟩ := hc
    subst h
    have hB : H id = .cells ew es := by rw [← hA id]; exact hB0
    have hbr := hr.br id
    rw [hB] at hbr
    obtain ⟨h1, h2, h2', vs, T, h3, h4⟩ := hbr
    cases hx with
    | own _ _ _ cap _ a hid hcap hcl ha hroom =>
    have ha' : a = some ⟨σ.blk id, σ.base id + off * σ.esz id, none⟩ := ha.resolve_left (by omega)
    obtain ⟨vs0, T0, fr0, g1, g2⟩ := hroom.resolve_left (by omega)
    rw [g1] at h3
    obtain ⟨rfl, rfl, rfl⟩ : vs0 = vs ∧ T0 = T ∧ fr0 = (0, 0) := by simp at h3; exact h3
    rw [h1] at ha' g2
    subst ha'
    obtain ⟨zc, hz1, hz2⟩ := zeT_run hz w
    have hvr : VR w σ F D zero zc := constA_sound 8 zc zero hz2
    obtain ⟨c1, c2, c3⟩ := cells_sound hvr hzc
    have hm1 : (off + len) * ew ≤ (off + cap) * ew := Nat.mul_le_mul_right _ (by omega)
    rw [Nat.add_mul] at hm1
    have hzs : (Builtin.zeroCells zc.cells len).size = len * ew := by simp [Builtin.zeroCells, c1, hzl]
    have hone : ∀ q ∈ (Builtin.zeroCells zc.cells len).toList, q.oneCell' = true := by
      intro q hq
      simp only [Builtin.zeroCells, Array.toList_map, List.mem_map] at hq
      obtain ⟨m, hm, rfl⟩ := hq
      have hlt : m < len * zc.cells.size := by simpa using hm
      have hp : 0 < zc.cells.size := by rcases Nat.eq_zero_or_pos zc.cells.size with h0 | h0
                                        · rw [h0] at hlt; simp at hlt
                                        · exact h0
      rw [getElem!_pos zc.cells _ (Nat.mod_lt _ hp)]
      exact c3 _ (by simp)
    have hrun := run_storeCells_at (P := P) (σ.blk id) (σ.base id + off * ew) T0 (Builtin.zeroCells zc.cells len).toList 0 vs0 w g1 (by simp [hzs]; omega) hone
    simp only [Nat.add_zero] at hrun
    refine ⟨.tuple #[], w.setRow (σ.blk id) (vs0.toList.take (σ.base id + off * ew) ++ (Builtin.zeroCells zc.cells len).toList ++ vs0.toList.drop (σ.base id + off * ew + (Builtin.zeroCells zc.cells len).toList.length)).toArray, ?_, σ, F, VR.undef, ?_⟩
    · simp only [Builtin.clear_]
      simp [hat, run_underlying ht, hz1]
      obtain ⟨len, rfl⟩ : ∃ m, len = m + 1 := ⟨len - 1, by omega⟩
      simp [hrun]
    · refine (Step.setRow hr hB g1 (by simp [hzs]; omega) (es' := es.take off ++ (List.replicate len zero ++ es.drop (off + len))) ⟨fun q hq => ?_, fun q hq => ?_⟩ ?_).more hn
      · simp only [List.mem_append] at hq
        rcases hq with hq | hq | hq
        · exact h2 q (List.mem_of_mem_take hq)
        · rw [(List.mem_replicate.1 hq).2]; exact hzl
        · exact h2 q (List.mem_of_mem_drop hq)
      · simp only [List.mem_append] at hq
        rcases hq with hq | hq | hq
        · exact h2' q (List.mem_of_mem_take hq)
        · rw [(List.mem_replicate.1 hq).2]; exact fun a ha => List.all_eq_true.1 hzc a ha
        · exact h2' q (List.mem_of_mem_drop hq)
      · intro i e' j q hi hj
        have hrow : ∀ (k : Nat), (vs0.toList.take (σ.base id + off * ew) ++ (Builtin.zeroCells zc.cells len).toList ++ vs0.toList.drop (σ.base id + off * ew + (Builtin.zeroCells zc.cells len).toList.length)).toArray[k]? = (if σ.base id + off * ew ≤ k ∧ k < σ.base id + off * ew + len * ew then (Builtin.zeroCells zc.cells len)[k - (σ.base id + off * ew)]? else vs0[k]?) := by
          intro k
          rw [setRow_take (by simp [hzs]; omega)]
          simp [hzs]
        by_cases hi1 : i < off
        · rw [List.getElem?_append_left (by simp; omega), List.getElem?_take_of_lt hi1] at hi
          obtain ⟨uq, h5, h6⟩ := h4 i e' j q hi hj
          refine ⟨uq, ?_, h6⟩
          have hjl : j < ew := by rw [← h2 e' (List.mem_of_getElem? hi)]; exact (List.getElem?_eq_some_iff.1 hj).1
          have : (i + 1) * ew ≤ off * ew := Nat.mul_le_mul_right _ hi1
          rw [Nat.add_mul] at this
          rw [hrow, if_neg (by omega)]; exact h5
        · by_cases hi2 : i < off + len
          · rw [List.getElem?_append_right (by simp; omega), List.getElem?_append_left (by simp; omega), List.getElem?_replicate] at hi
            split at hi <;> simp at hi
            subst hi
            have hjl : j < zero.cells.length := (List.getElem?_eq_some_iff.1 hj).1
            have hm2 : i * ew = off * ew + (i - off) * ew := by rw [← Nat.add_mul]; congr 1; omega
            have hm3 : (i - off + 1) * ew ≤ len * ew := Nat.mul_le_mul_right _ (by omega)
            rw [Nat.add_mul] at hm3
            refine ⟨zc.cells[j]'(by omega), ?_, c2 j q _ hj (by simp [show j < zc.cells.size by omega])⟩
            rw [hrow, if_pos (by omega)]
            simp only [Builtin.zeroCells, Array.getElem?_map, Array.getElem?_range]
            rw [if_pos (by rw [c1, hzl]; omega)]
            simp only [Option.map_some]
            rw [show σ.base id + i * ew + j - (σ.base id + off * ew) = (i - off) * zc.cells.size + j by rw [c1, hzl]; omega]
            rw [Nat.mul_comm, Nat.mul_add_mod, Nat.mod_eq_of_lt (by omega), getElem!_pos zc.cells j (by omega)]
          · rw [List.getElem?_append_right (by simp; omega), List.getElem?_append_right (by simp; omega), List.getElem?_drop] at hi
            simp only [List.length_take, List.length_replicate] at hi
            rw [show off + len + (i - min off es.length - len) = i by omega] at hi
            obtain ⟨uq, h5, h6⟩ := h4 i e' j q hi hj
            refine ⟨uq, ?_, h6⟩
            have : (off + len) * ew ≤ i * ew := Nat.mul_le_mul_right _ (by omega)
            rw [Nat.add_mul] at this
            rw [hrow, if_neg (by omega)]; exact h5

/-- 'clear', of a map. -/
theorem clearM_sound {t k e : TypeId} {nid : Nat} {at1 : Array TypeId} {ty : TypeId} {out : Out} (hr : Rel H D w σ F) (hn : ∀ id, D id → D' id) (hA : ∀ id, hget A id = H id) (hat : at1[0]? = some t) (ht : P.underlying t = some (.map k e))
    (hx : VR w σ F D x ux) (h : clearMapA A x = some out) :
    ∃ r w', (Builtin.clear_ at1 ty #[ux]).run P w = .ok r w' ∧ Made H D σ F w nid D' out r w' := by
  unfold clearMapA at h
  split at h <;> (try (simp at h; done))
  · simp [just] at h; subst h
    cases hx
    exact ⟨.tuple #[], w, by simp [Builtin.clear_, hat, run_underlying ht], σ, F, VR.undef, (Step.refl hr).more hn⟩
  · rename_i id
    cases hx with
    | map _ hid =>
    have hb := hr.br id
    rw [hA id] at h
    cases hB : H id with
    | map es =>
      rw [hB] at h hb
      simp at h; subst h
      obtain ⟨ms, clock, b1, b2, b3⟩ := hb
      have hlt : σ.blk id < w.heap.size := getElem?_size b1
      have hl : (H id).live = true := by rw [hB]; rfl
      refine ⟨.tuple #[], { w with heap := w.heap.setIfInBounds (σ.blk id) (.map #[] clock) }, ?_, σ, F, VR.undef, ?_⟩
      · simp [Builtin.clear_, hat, run_underlying ht, getObj, setObj, Sem.run, b1]
      · refine (Step.setObj (o := .map ms clock) hr hl b1 (by intros; simp) (by intro r h; cases h) ?_).more hn
        exact ⟨#[], clock, by simp [hlt], rfl, fun i a b ha hb' => by simp at ha⟩
    | _ => rw [hB] at h; simp at h

end Go.Abs
