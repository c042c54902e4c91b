import GoSem.Dispatch
import GoSem.Core.Region
import Derived.RangeFuncLeaves
import Derived.OrdersIn
import Derived.RangeFuncRecord
import Derived.Laws.Entries
import Derived.LaidEql
/- An evaluator of the program's functions, and that it is sound: part of the proof. -/
set_option linter.unusedVariables false
set_option linter.unusedSimpArgs false
/- The logical evaluator: values as the model's, blocks by logical numbers, no tape. -/
namespace Go.Ev

/-! ### A heap: a trie over the bits of a number -/
inductive Trie (α : Type) where
  | leaf
  | node (v : Option α) (l r : Trie α)

namespace Trie
variable {α : Type}
def bits : Nat → Nat → List Bool
  | 0, _ => []
  | f + 1, n => match n with
    | 0 => []
    | _ + 1 => Nat.beq (n % 2) 1 :: bits f (n / 2)
def findB : Trie α → List Bool → Option α
  | .leaf, _ => none
  | .node v _ _, [] => v
  | .node _ l _, false :: p => findB l p
  | .node _ _ r, true :: p => findB r p
def putB (x : Option α) : List Bool → Trie α → Trie α
  | [], .leaf => .node x .leaf .leaf
  | [], .node _ l r => .node x l r
  | false :: p, .leaf => .node none (putB x p .leaf) .leaf
  | true :: p, .leaf => .node none .leaf (putB x p .leaf)
  | false :: p, .node v l r => .node v (putB x p l) r
  | true :: p, .node v l r => .node v l (putB x p r)
def get (t : Trie α) (n : Nat) : Option α := findB t (bits n n)
def set (t : Trie α) (n : Nat) (x : Option α) : Trie α := putB x (bits n n) t
end Trie

/-! ### The code, its tables resolved -/
/-- Kinds of what is held against one another: 0: a bool, 1: a number, 2: a text. -/
inductive EqK where
  | none | bool | ptr | slice | map | func
  | flat (ks : List Nat)
  deriving DecidableEq, Repr, Inhabited
inductive ConvK where
  | int (k : IntKind) | str | bytesStr | strBytes
  deriving DecidableEq, Repr, Inhabited
inductive LOp where
  | mov (x : Operand)
  | nilCheck (x : Operand)
  | pick (c a b : Operand)
  | alloc (st : Nat) (zero : List Value)
  | box (st : Nat) (x : Operand) (imm : Bool)
  | build (zero : List Value) (parts : List (Nat × Nat × Operand))
  | buildSlice (st len : Nat) (zero : List Value) (parts : List (Nat × Nat × Operand)) (imm : Bool)
  | load (n : Option Nat) (a : Operand)
  | store (n : Nat) (a x : Operand) (fz : Bool)
  | bin (op : BinOp) (k : EqK) (x y : Operand)
  | un (op : UnOp) (x : Operand)
  | conv (k : ConvK) (x : Operand)
  | makeFunc (fn : Fn) (first cap : List Operand)
  | makeMap
  | makeSlice (st bytes : Nat) (zero : List Value) (len cap : Operand)
  | sliceStr (x : Operand) (lo hi : Option Operand)
  | sliceSl (st : Nat) (x : Operand) (lo hi mx : Option Operand)
  | sliceArr (st n : Nat) (x : Operand) (lo hi mx : Option Operand)
  | fieldAddr (off : Nat) (x : Operand)
  | field (agg : Option Nat) (off : Nat) (x : Operand)
  | indexSl (st : Nat) (x i : Operand)
  | indexArrAddr (st n : Nat) (x i : Operand)
  | indexStr (x i : Operand)
  | indexArr (agg : Option Nat) (st n : Nat) (x i : Operand)
  | lookup (kd : Nat) (zero : Value) (m k : Operand) (ok : Bool)
  | mapUpdate (kd : Nat) (m k v : Operand)
  | extract (x : Operand) (i : Nat)
  | call (f : Operand) (args : List Operand)
  | append (st bytes : Nat) (s x : Operand)
  | appendZ (st bytes : Nat) (zero : List Value) (s x : Operand)
  | cap (x : Operand)
  | makeIface (t : Nat) (x : Operand)
  | panic
  | len (str : Bool) (x : Operand)
  | copy (st : Nat) (d s : Operand)
  | clear (st : Nat) (zero : List Value) (s : Operand)
  | min2 (x y : Operand)
  | max2 (x y : Operand)
  deriving Inhabited
/-- `loc`: what it writes is wanted in its region alone. -/
structure LOper where
  dst : Option Nat
  loc : Bool
  op : LOp
  guard : Option (Nat × Bool)
  deriving Inhabited
inductive LCode where
  | skip
  | region (ops : List LOper) (pairs : List (Nat × Nat))
  | seq (a b : LCode)
  | cond (c : Operand) (thn els : LCode)
  | block (id : Nat) (body : LCode)
  | loop (kill : List Nat) (body : LCode)
  | rangeFunc (f : Operand) (params : List Nat) (assign body : LCode)
  | exit (id : Nat)
  | ret
  deriving Inhabited
inductive LRes where
  | tmp (t : Nat)
  | cell (a : Nat) (agg : Option Nat)
  deriving Inhabited
/-- `n`: how many slots; `K`: those that are kept from region to region. -/
structure LFunc where
  n : Nat
  K : List Nat
  res : List LRes
  body : LCode
  deriving Inhabited

/-! ### State -/
abbrev Tmps := List (Nat × Value)
inductive LObj where
  | cells (c : List Value)
  | map (es : List (Value × Value))
  | loop (st : Nat) (T : Tmps) (ps : List Nat) (assign body : LCode) (fn : Nat) (pend : Option LCode)
structure St where
  hm : Trie LObj
  hi : Trie LObj
  k : Nat

inductive Xit where
  | normal | exit (id : Nat) | ret
  deriving DecidableEq, Repr, Inhabited

def Tget : Tmps → Nat → Option Value
  | [], _ => none
  | (j, v) :: r, i => match Nat.beq j i with
    | true => some v
    | false => Tget r i
def memN (n : Nat) : List Nat → Bool
  | [] => false
  | m :: r => match Nat.beq n m with
    | true => true
    | false => memN n r
def Tdrop (d : List Nat) : Tmps → Tmps
  | [] => []
  | (i, v) :: r => match memN i d with
    | true => Tdrop d r
    | false => (i, v) :: Tdrop d r
def Tput : Tmps → Nat → Value → Tmps
  | [], i, v => [(i, v)]
  | (j, u) :: r, i, v => match Nat.beq j i with
    | true => (i, v) :: r
    | false => match Nat.blt i j with
      | true => (i, v) :: (j, u) :: r
      | false => (j, u) :: Tput r i v
def Tdel : Tmps → Nat → Tmps
  | [], _ => []
  | (j, u) :: r, i => match Nat.beq j i with
    | true => Tdel r i
    | false => (j, u) :: Tdel r i

/-- The slots: those of the region at hand (the newest first), those that are kept. -/
structure Env where
  L : Tmps
  T : Tmps
def Env.look (e : Env) (i : Nat) : Option Value := match Tget e.L i with
  | some v => some v
  | none => Tget e.T i
def ev (e : Env) : Operand → Option Value
  | .tmp t => e.look t
  | .const v => some v
  | .func f => some (.func (.func f) #[] #[])
  | .global _ => none
def evs (e : Env) : List Operand → Option (List Value)
  | [] => some []
  | x :: xs => match ev e x with
    | some v => match evs e xs with
      | some vs => some (v :: vs)
      | none => none
    | none => none
def evo (e : Env) : Option Operand → Option (Option Value)
  | none => some none
  | some x => match ev e x with
    | some v => some (some v)
    | none => none

def St.get (s : St) (b : Nat) : Option LObj := match s.hm.get b with
  | some o => some o
  | none => s.hi.get b
/-- A cell of which nothing is known. -/
def isJ : Value → Bool
  | .chan _ => true
  | _ => false
def noJ : List Value → Bool
  | [] => true
  | v :: r => match isJ v with
    | true => false
    | false => noJ r
def St.ld (s : St) (b o n : Nat) : Option (List Value) := match s.get b with
  | some (.cells c) => if o + n ≤ c.length ∧ noJ ((c.drop o).take n) = true then some ((c.drop o).take n) else none
  | _ => none
def scalar : Value → Bool
  | .agg _ | .tuple _ => false
  | _ => true
def St.st (fl : Nat) (s : St) (b o : Nat) (vs : List Value) : Option St := match s.hm.get b with
  | some (.cells c) => if fl ≤ b ∧ o + vs.length ≤ c.length ∧ vs.all scalar = true then some { s with hm := s.hm.set b (some (.cells (c.take o ++ vs ++ c.drop (o + vs.length)))) } else none
  | _ => none
def St.new (s : St) (o : LObj) : St := { s with hm := s.hm.set s.k (some o), k := s.k + 1 }
def St.newI (s : St) (o : LObj) : St := { s with hi := s.hi.set s.k (some o), k := s.k + 1 }
def St.add (s : St) (imm : Bool) (o : LObj) : St := if imm then s.newI o else s.new o
/-- What was written stays as it is from now on. -/
def St.fz (s : St) (b : Nat) : St := match s.hm.get b with
  | some o => { s with hm := s.hm.set b none, hi := s.hi.set b (some o) }
  | none => s
def St.del (s : St) (b : Nat) : St := { s with hm := s.hm.set b none }

def cellsL (v : Value) : List Value := v.cells.toList
def ofCells (n : Option Nat) (c : List Value) : Option Value := match n with
  | some _ => some (.agg c.toArray)
  | none => match c with
    | [v] => some v
    | _ => none
def fill : List Value → List (Nat × Nat × Value) → Option (List Value)
  | c, [] => some c
  | c, (off, n, v) :: r => let vs := cellsL v; if vs.length = n ∧ off + n ≤ c.length then fill (c.take off ++ vs ++ c.drop (off + n)) r else none
def evParts (T : Env) : List (Nat × Nat × Operand) → Option (List (Nat × Nat × Value))
  | [] => some []
  | (a, b, x) :: r => match ev T x with
    | some v => match evParts T r with
      | some l => some ((a, b, v) :: l)
      | none => none
    | none => none
def rep (zero : List Value) : Nat → List Value
  | 0 => []
  | n + 1 => zero ++ rep zero n

def bytesLess : List UInt8 → List UInt8 → Bool
  | _, [] => false
  | [], _ :: _ => true
  | a :: x, b :: y => a < b || (a == b && bytesLess x y)
/-- 'wrap', with its common case first. -/
def wrapI (k : IntKind) (n : Int) : Int :=
  match k with
  | .i64 => if -9223372036854775808 ≤ n ∧ n < 9223372036854775808 then n else IntKind.i64.wrap n
  | .u64 => if 0 ≤ n ∧ n < 18446744073709551616 then n else IntKind.u64.wrap n
  | k => k.wrap n
def strOp (op : BinOp) (a b : ByteArray) : Option Value :=
  let x := a.data.toList; let y := b.data.toList
  match op with
  | .add => if x.length + y.length < 4611686018427387904 then some (.string ⟨(x ++ y).toArray⟩) else none
  | .eql => some (.bool (x == y))
  | .neq => some (.bool (!(x == y)))
  | .lss => some (.bool (bytesLess x y))
  | .leq => some (.bool (bytesLess x y || x == y))
  | .gtr => some (.bool (!(bytesLess x y || x == y)))
  | .geq => some (.bool (!bytesLess x y))
  | _ => none
def intOp (op : BinOp) (k : IntKind) (x y : Int) : Option Value := match op with
  | .add => some (.int k (wrapI k (x + y)))
  | .sub => some (.int k (wrapI k (x - y)))
  | .mul => some (.int k (wrapI k (x * y)))
  | .quo => if y = 0 then none else some (.int k (wrapI k (x.tdiv y)))
  | .rem => if y = 0 then none else some (.int k (x.tmod y))
  | .and => some (.int k (wrapI k (BitVec.ofInt k.bits x &&& BitVec.ofInt k.bits y).toNat))
  | .or => some (.int k (wrapI k (BitVec.ofInt k.bits x ||| BitVec.ofInt k.bits y).toNat))
  | .xor => some (.int k (wrapI k (BitVec.ofInt k.bits x ^^^ BitVec.ofInt k.bits y).toNat))
  | .andNot => some (.int k (wrapI k (BitVec.ofInt k.bits x &&& ~~~ BitVec.ofInt k.bits y).toNat))
  | .eql => some (.bool (x == y))
  | .neq => some (.bool (x != y))
  | .lss => some (.bool (x < y))
  | .leq => some (.bool (x ≤ y))
  | .gtr => some (.bool (x > y))
  | .geq => some (.bool (x ≥ y))
  | _ => none
def shiftOp (op : BinOp) (k : IntKind) (x y : Int) : Option Value :=
  if y < 0 then none else
  let n := min y.toNat k.bits
  match op with
  | .shl => some (.int k (wrapI k (x * 2 ^ n)))
  | .shr => some (.int k (x.fdiv (2 ^ n)))
  | _ => none
def eqLeaf : Nat → Value → Value → Option Bool
  | 0, .bool a, .bool b => some (a == b)
  | 1, .int k a, .int k' b => if k = k' then some (a == b) else none
  | 2, .string a, .string b => some (a.data.toList == b.data.toList)
  | _, _, _ => none
def eqFlat : List Nat → List Value → List Value → Option Bool
  | [], [], [] => some true
  | k :: ks, a :: x, b :: y => match eqLeaf k a b with
    | some false => some false
    | some true => eqFlat ks x y
    | none => none
  | _, _, _ => none
def liveCells (s : St) (b : Nat) : Bool := match s.hm.get b with
  | some (.cells (_ :: _)) => true
  | _ => false
def eqPtr (s : St) : Value → Value → Option Bool
  | .pointer none, .pointer b => some b.isNone
  | .pointer (some _), .pointer none => some false
  | .pointer (some a), .pointer (some b) => if liveCells s a.block = true ∧ liveCells s b.block = true then some (a.block == b.block && a.off == b.off) else none
  | _, _ => none
def eqSl : Value → Value → Option Bool
  | .slice none _ _, .slice b _ _ => some b.isNone
  | .slice (some _) _ _, .slice none _ _ => some false
  | _, _ => none
def eqMap : Value → Value → Option Bool
  | .map none, .map b => some b.isNone
  | .map (some _), .map none => some false
  | _, _ => none
def eqFn : Value → Value → Option Bool
  | .nilFunc, .nilFunc => some true
  | .nilFunc, .func _ _ _ => some false
  | .func _ _ _, .nilFunc => some false
  | _, _ => none
def eqAgg (ks : List Nat) : Value → Value → Option Bool
  | .agg a, .agg b => eqFlat ks a.toList b.toList
  | _, _ => none
def eqOp (s : St) (k : EqK) (x y : Value) : Option Bool := match k with
  | .none => none
  | .bool => eqLeaf 0 x y
  | .ptr => eqPtr s x y
  | .slice => eqSl x y
  | .map => eqMap x y
  | .func => eqFn x y
  | .flat ks => eqAgg ks x y
def binOp (s : St) (op : BinOp) (k : EqK) (x y : Value) : Option Value :=
  match op, x, y with
  | .shl, .int j a, .int _ b => shiftOp .shl j a b
  | .shr, .int j a, .int _ b => shiftOp .shr j a b
  | op, .int j a, .int j' b => if j = j' then intOp op j a b else none
  | op, .string a, .string b => strOp op a b
  | .eql, x, y => (eqOp s k x y).map fun b => .bool b
  | .neq, x, y => (eqOp s k x y).map fun b => .bool (!b)
  | _, _, _ => none
def unOp (op : UnOp) (x : Value) : Option Value := match op, x with
  | .not, .bool b => some (.bool (!b))
  | .neg, .int k n => some (.int k (wrapI k (0 - n)))
  | .xor, .int k n => intOp .xor k (if k.signed then -1 else k.max) n
  | _, _ => none
def asNat (n : Nat) : Value → Option Nat
  | .int _ i => if 0 ≤ i ∧ i ≤ n then some i.toNat else none
  | _ => none
/-- low, high, max of a slice expression. -/
def bounds (len cap : Nat) (lo hi mx : Option Value) : Option (Nat × Nat × Nat) :=
  match (match mx with | some v => asNat cap v | none => some cap) with
  | none => none
  | some m => match (match hi with | some v => asNat m v | none => if mx.isSome then none else some len) with
    | none => none
    | some h => match (match lo with | some v => asNat h v | none => some 0) with
      | none => none
      | some l => some (l, h, m)
def bytesOf : List Value → Option (List UInt8)
  | [] => some []
  | .int .u8 n :: r => match bytesOf r with
    | some l => some (UInt8.ofNat n.toNat :: l)
    | none => none
  | _ => none
def lookupE (kd : Nat) (k : Value) : List (Value × Value) → Option (Option Value)
  | [] => some none
  | (j, v) :: r => match eqLeaf kd k j with
    | some true => some (some v)
    | some false => lookupE kd k r
    | none => none
def updateE (kd : Nat) (k v : Value) : List (Value × Value) → Option (List (Value × Value))
  | [] => some [(k, v)]
  | (j, u) :: r => match eqLeaf kd k j with
    | some true => some ((k, v) :: r)
    | some false => match updateE kd k v r with
      | some l => some ((j, u) :: l)
      | none => none
    | none => none
/-- The first cells of a slice. -/
def elemCells (s : St) (st : Nat) : Value → Nat → Option (List Value)
  | .slice base len _, n => if n = 0 then some [] else if n ≤ len then match base with
      | some a => s.ld a.block a.off (n * st)
      | none => none
    else none
  | _, _ => none
def lenV : Value → Option Nat
  | .slice _ n _ => some n
  | .string s => some s.data.toList.length
  | _ => none

/-- A slice bears in its address' third part: 0: its capacity is just that; st: it may be more, its elements have st cells. -/
def appendNew (fl : Nat) (s : St) (st : Nat) (base : Option Addr) (c : List Value) : Option St := match base with
  | none => some (s.new (.cells c))
  | some a => match a.spot with
    | some 0 => some (s.new (.cells c))
    | some (q + 1) => match s.hm.get a.block with
      | some (.cells _) => if fl ≤ a.block ∧ q + 1 = st then some ((s.del a.block).new (.cells c)) else none
      | _ => none
    | none => none
def appendCells (fl : Nat) (s : St) (st bytes : Nat) (x : Value) (n : Nat) (new : List Value) : Option (Value × St) :=
  match x with
  | .slice base len cap =>
    if len + n ≤ cap then match base with
      | none => some (.slice none (len + n) cap, s)
      | some a => match new with
        | [] => some (.slice base (len + n) cap, s)
        | _ => match s.st fl a.block (a.off + len * st) new with
          | some s' => some (.slice base (len + n) cap, s')
          | none => none
    else if len + n < 1073741824 ∧ bytes < 65536 ∧ new.all scalar = true then match elemCells s st x len with
        | some old => match appendNew fl s st base (old ++ new) with
          | some s' => some (.slice (some ⟨s.k, 0, some st⟩) (len + n) (len + n), s')
          | none => none
        | none => none
      else none
  | _ => none
def appendOp (fl : Nat) (s : St) (st bytes : Nat) (x y : Value) : Option (Value × St) :=
  match lenV y with
  | some n => match elemCells s st y n with
    | some new => appendCells fl s st bytes x n new
    | none => none
  | none => none

/-- An operation that is no call: its value (of a store: none) and the state behind it. -/
abbrev OpR := Option (Option Value × St)
def some1 (s : St) : Option Value → OpR
  | some v => some (some v, s)
  | none => none
def rNil (s : St) : Option Value → OpR
  | some (.pointer (some a)) => some (some (.pointer (some a)), s)
  | some (.func (.func f) fi c) => some (some (.func (.func f) fi c), s)
  | some (.func (.yield f) fi c) => some (some (.func (.yield f) fi c), s)
  | _ => none
def rPick (T : Env) (s : St) (a b : Operand) : Option Value → OpR
  | some (.bool t) => some1 s (ev T (if t then a else b))
  | _ => none
def ptrTo (b : Nat) : Value := .pointer (some ⟨b, 0, none⟩)
def rBox (s : St) (st : Nat) (imm : Bool) : Option Value → OpR
  | some v => if (cellsL v).length = st then some (some (ptrTo s.k), s.add imm (.cells (cellsL v))) else none
  | none => none
def rBuild (s : St) (zero : List Value) : Option (List (Nat × Nat × Value)) → OpR
  | some l => match fill zero l with
    | some c => some (some (.agg c.toArray), s)
    | none => none
  | none => none
def rBuildSlice (s : St) (st len : Nat) (zero : List Value) (imm : Bool) : Option (List (Nat × Nat × Value)) → OpR
  | some l => match fill (rep zero len) l with
    | some c => some (some (.slice (some ⟨s.k, 0, some 0⟩) len len), s.add imm (.cells c))
    | none => none
  | none => none
def rLoad (s : St) (n : Option Nat) : Option Value → OpR
  | some (.pointer (some p)) => match s.ld p.block p.off (n.getD 1) with
    | some c => some1 s (ofCells n c)
    | none => none
  | _ => none
def rStore (fl : Nat) (s : St) (n : Nat) (fz : Bool) : Option Value → Option Value → OpR
  | some (.pointer (some p)), some v => if (cellsL v).length = n then match s.st fl p.block p.off (cellsL v) with
      | some s' => some (none, if fz then s'.fz p.block else s')
      | none => none
    else none
  | _, _ => none
def rBin (s : St) (op : BinOp) (k : EqK) : Option Value → Option Value → OpR
  | some a, some b => some1 s (binOp s op k a b)
  | _, _ => none
def rUn (s : St) (op : UnOp) : Option Value → OpR
  | some a => some1 s (unOp op a)
  | none => none
def rConv (s : St) : ConvK → Option Value → OpR
  | .int k, some (.int _ n) => some (some (.int k (wrapI k n)), s)
  | .str, some (.string b) => some (some (.string b), s)
  | .bytesStr, some (.slice a n c) => match elemCells s 1 (.slice a n c) n with
    | some l => match bytesOf l with
      | some b => some (some (.string ⟨b.toArray⟩), s)
      | none => none
    | none => none
  | _, _ => none
def rFunc (s : St) (fn : Fn) : Option (List Value) → Option (List Value) → OpR
  | some f, some c => some (some (.func fn f.toArray c.toArray), s)
  | _, _ => none
def rMakeSlice (s : St) (st bytes : Nat) (zero : List Value) : Option Value → Option Value → OpR
  | some (.int .i64 l), some (.int .i64 c) =>
    if 0 ≤ l ∧ l ≤ c ∧ c < 1073741824 ∧ bytes < 65536 then some (some (.slice (some ⟨s.k, 0, some 0⟩) l.toNat c.toNat), s.new (.cells (rep zero c.toNat))) else none
  | _, _ => none
def rSliceStr (s : St) : Option Value → Option (Option Value) → Option (Option Value) → OpR
  | some (.string b), some lo, some hi => match bounds b.data.toList.length b.data.toList.length lo hi none with
    | some (l, h, _) => some (some (.string ⟨((b.data.toList.drop l).take (h - l)).toArray⟩), s)
    | none => none
  | _, _, _ => none
/-- What a part of a slice bears. -/
def spotOf (st : Nat) (mx : Bool) : Option Nat → Option (Option Nat)
  | some 0 => some (some 0)
  | some (q + 1) => if q + 1 = st then some (if mx then some 0 else some (q + 1)) else none
  | none => none
def rSliceSl (s : St) (st : Nat) : Option Value → Option (Option Value) → Option (Option Value) → Option (Option Value) → OpR
  | some (.slice a len cap), some lo, some hi, some mx => match bounds len cap lo hi mx with
    | some (l, h, m) => match a with
      | none => some (some (.slice none (h - l) (m - l)), s)
      | some p => match spotOf st mx.isSome p.spot with
        | some sp => some (some (.slice (some ⟨p.block, p.off + l * st, sp⟩) (h - l) (m - l)), s)
        | none => none
    | none => none
  | _, _, _, _ => none
def rSliceArr (s : St) (st n : Nat) : Option Value → Option (Option Value) → Option (Option Value) → Option (Option Value) → OpR
  | some (.pointer (some p)), some lo, some hi, some mx => match bounds n n lo hi mx with
    | some (l, h, m) => some (some (.slice (some ⟨p.block, p.off + l * st, some 0⟩) (h - l) (m - l)), s)
    | none => none
  | _, _, _, _ => none
def rFieldAddr (s : St) (off : Nat) : Option Value → OpR
  | some (.pointer (some p)) => some (some (.pointer (some ⟨p.block, p.off + off, none⟩)), s)
  | _ => none
def rField (s : St) (agg : Option Nat) (off : Nat) : Option Value → OpR
  | some (.agg c) => some1 s (ofCells agg ((c.toList.drop off).take (agg.getD 1)))
  | _ => none
def rIndexSl (s : St) (st : Nat) : Option Value → Option Value → OpR
  | some (.slice (some p) len _), some (.int _ i) => if 0 ≤ i ∧ i < len then some (some (.pointer (some ⟨p.block, p.off + i.toNat * st, none⟩)), s) else none
  | _, _ => none
def rIndexArrAddr (s : St) (st n : Nat) : Option Value → Option Value → OpR
  | some (.pointer (some p)), some (.int _ i) => if 0 ≤ i ∧ i < n then some (some (.pointer (some ⟨p.block, p.off + i.toNat * st, none⟩)), s) else none
  | _, _ => none
def rIndexStr (s : St) : Option Value → Option Value → OpR
  | some (.string b), some (.int _ i) => if 0 ≤ i then match b.data.toList[i.toNat]? with
      | some c => some (some (.int .u8 c.toNat), s)
      | none => none
    else none
  | _, _ => none
def rIndexArr (s : St) (agg : Option Nat) (st n : Nat) : Option Value → Option Value → OpR
  | some (.agg c), some (.int _ i) => if 0 ≤ i ∧ i < n then some1 s (ofCells agg ((c.toList.drop (i.toNat * st)).take (agg.getD 1))) else none
  | _, _ => none
def mapOf (s : St) : Option Nat → Option (List (Value × Value))
  | none => some []
  | some r => match s.get r with
    | some (.map es) => some es
    | _ => none
def rLookup (s : St) (kd : Nat) (zero : Value) (ok : Bool) : Option Value → Option Value → OpR
  | some (.map m), some k => match mapOf s m with
    | some es => match lookupE kd k es with
      | some (some v) => some (some (if ok then .tuple #[v, .bool true] else v), s)
      | some none => some (some (if ok then .tuple #[zero, .bool false] else zero), s)
      | none => none
    | none => none
  | _, _ => none
def rMapUpdate (fl : Nat) (s : St) (kd : Nat) : Option Value → Option Value → Option Value → OpR
  | some (.map (some r)), some k, some v => match s.hm.get r with
    | some (.map es) => match updateE kd k v es with
      | some es' => if fl ≤ r then some (none, { s with hm := s.hm.set r (some (.map es')) }) else none
      | none => none
    | _ => none
  | _, _, _ => none
def rExtract (s : St) (i : Nat) : Option Value → OpR
  | some (.tuple vs) => some1 s vs.toList[i]?
  | _ => none
def lift1 : Option (Value × St) → OpR
  | some (v, s) => some (some v, s)
  | none => none
def rAppend (fl : Nat) (s : St) (st bytes : Nat) : Option Value → Option Value → OpR
  | some x, some y => lift1 (appendOp fl s st bytes x y)
  | _, _ => none
def rAppendZ (fl : Nat) (s : St) (st bytes : Nat) (zero : List Value) : Option Value → Option Value → OpR
  | some x, some (.int .i64 n) => if 0 ≤ n ∧ n < 1073741824 ∧ bytes < 65536 then lift1 (appendCells fl s st bytes x n.toNat (rep zero n.toNat)) else none
  | _, _ => none
def rCap (s : St) : Option Value → OpR
  | some (.slice none _ c) => some (some (.int .i64 c), s)
  | some (.slice (some a) _ c) => match a.spot with
    | some 0 => some (some (.int .i64 c), s)
    | _ => none
  | _ => none
def rIface (s : St) (t : Nat) : Option Value → OpR
  | some v => some (some (.iface t v), s)
  | none => none
def rLen (s : St) : Bool → Option Value → OpR
  | true, some (.string b) => some (some (.int .i64 b.data.toList.length), s)
  | false, some (.slice _ n _) => some (some (.int .i64 n), s)
  | _, _ => none
def rCopy (fl : Nat) (s : St) (st : Nat) : Option Value → Option Value → OpR
  | some (.slice base dl _), some x => match lenV x with
    | some sl => match elemCells s st x (min sl dl) with
      | some c => match base with
        | none => some (some (.int .i64 (min sl dl : Nat)), s)
        | some a => match (if min sl dl = 0 then some s else s.st fl a.block a.off c) with
          | some s' => some (some (.int .i64 (min sl dl : Nat)), s')
          | none => none
      | none => none
    | none => none
  | _, _ => none
def rClear (fl : Nat) (s : St) (zero : List Value) : Option Value → OpR
  | some (.slice none _ _) => some (some (.tuple #[]), s)
  | some (.slice (some a) n _) => if n = 0 then some (some (.tuple #[]), s) else match s.st fl a.block a.off (rep zero n) with
    | some s' => some (some (.tuple #[]), s')
    | none => none
  | _ => none
def rMin (s : St) : Option Value → Option Value → OpR
  | some (.int k a), some (.int _ b) => some (some (.int k (if b < a then b else a)), s)
  | _, _ => none
def rMax (s : St) : Option Value → Option Value → OpR
  | some (.int k a), some (.int _ b) => some (some (.int k (if a < b then b else a)), s)
  | _, _ => none
def runOp (fl : Nat) (s : St) (T : Env) : LOp → OpR
  | .mov x => some1 s (ev T x)
  | .nilCheck x => rNil s (ev T x)
  | .pick c a b => rPick T s a b (ev T c)
  | .alloc st zero => some (some (ptrTo s.k), s.new (.cells zero))
  | .box st x imm => rBox s st imm (ev T x)
  | .build zero parts => rBuild s zero (evParts T parts)
  | .buildSlice st len zero parts imm => rBuildSlice s st len zero imm (evParts T parts)
  | .load n a => rLoad s n (ev T a)
  | .store n a x fz => rStore fl s n fz (ev T a) (ev T x)
  | .bin op k x y => rBin s op k (ev T x) (ev T y)
  | .un op x => rUn s op (ev T x)
  | .conv k x => rConv s k (ev T x)
  | .makeFunc fn first cap => rFunc s fn (evs T first) (evs T cap)
  | .makeMap => some (some (.map (some s.k)), s.new (.map []))
  | .makeSlice st bytes zero l c => rMakeSlice s st bytes zero (ev T l) (ev T c)
  | .sliceStr x lo hi => rSliceStr s (ev T x) (evo T lo) (evo T hi)
  | .sliceSl st x lo hi mx => rSliceSl s st (ev T x) (evo T lo) (evo T hi) (evo T mx)
  | .sliceArr st n x lo hi mx => rSliceArr s st n (ev T x) (evo T lo) (evo T hi) (evo T mx)
  | .fieldAddr off x => rFieldAddr s off (ev T x)
  | .field agg off x => rField s agg off (ev T x)
  | .indexSl st x i => rIndexSl s st (ev T x) (ev T i)
  | .indexArrAddr st n x i => rIndexArrAddr s st n (ev T x) (ev T i)
  | .indexStr x i => rIndexStr s (ev T x) (ev T i)
  | .indexArr agg st n x i => rIndexArr s agg st n (ev T x) (ev T i)
  | .lookup kd zero m k ok => rLookup s kd zero ok (ev T m) (ev T k)
  | .mapUpdate kd m k v => rMapUpdate fl s kd (ev T m) (ev T k) (ev T v)
  | .extract x i => rExtract s i (ev T x)
  | .append st bytes x y => rAppend fl s st bytes (ev T x) (ev T y)
  | .appendZ st bytes zero x y => rAppendZ fl s st bytes zero (ev T x) (ev T y)
  | .cap x => rCap s (ev T x)
  | .makeIface t x => rIface s t (ev T x)
  | .panic => none
  | .len k x => rLen s k (ev T x)
  | .copy st d x => rCopy fl s st (ev T d) (ev T x)
  | .clear _ zero x => rClear fl s zero (ev T x)
  | .min2 x y => rMin s (ev T x) (ev T y)
  | .max2 x y => rMax s (ev T x) (ev T y)
  | .call _ _ => none

/-- Which cells a load reads. -/
def keyOf (T : Env) : LOp → Option (Nat × Nat × Nat)
  | .load n a => match ev T a with
    | some (.pointer (some p)) => some (p.block, p.off, n.getD 1)
    | _ => none
  | _ => none

/-- A summary of a function in place of its text. -/
abbrev Prim := Nat → List Value → St → Option (Value × St)
/-- `eqt`: a test that, where it says yes, speaks of the same. -/
structure Cfg where
  funcs : Nat → Option LFunc
  prim : Nat → Option Prim
  pure : Nat → Bool
  eqt : Option (List Value) → Option (List Value) → Bool

/-- What the pure calls leave: what was made is laid among what stays as it is. -/
def settle (s s1 : St) : St := { hm := s.hm, hi := (List.range' s.k (s1.k - s.k)).foldl (fun h b => match s1.hm.get b with | some o => h.set b (some o) | none => h) s1.hi, k := s1.k }

def tupleOf : List Value → Value
  | [v] => v
  | vs => .tuple vs.toArray
def resV (s : St) (T : Tmps) : LRes → Option Value
  | .tmp t => Tget T t
  | .cell a agg => match Tget T a with
    | some (.pointer (some p)) => match s.ld p.block p.off (agg.getD 1) with
      | some c => ofCells agg c
      | none => none
    | _ => none
def resVs (s : St) (T : Tmps) : List LRes → Option (List Value)
  | [] => some []
  | r :: rs => match resV s T r with
    | some v => match resVs s T rs with
      | some vs => some (v :: vs)
      | none => none
    | none => none
def argsT (K : List Nat) : Nat → List Value → Tmps
  | _, [] => []
  | i, v :: r => match memN i K with
    | true => (i, v) :: argsT K (i + 1) r
    | false => argsT K (i + 1) r
def putAll : List Nat → List Value → Tmps → Option Tmps
  | [], [], T => some T
  | p :: ps, v :: vs, T => putAll ps vs (Tput T p v)
  | _, _, _ => none
def want (T : Env) : Option (Nat × Bool) → Option Bool
  | none => some true
  | some (t, w) => match T.look t with
    | some (.bool b) => some (b == w)
    | _ => none
def putD (e : Env) (loc : Bool) : Option Nat → Option Value → Env
  | none, _ => e
  | some d, some v => if loc then ⟨(d, v) :: e.L, e.T⟩ else ⟨e.L, Tput e.T d v⟩
  | some d, none => if loc then ⟨Tdel e.L d, e.T⟩ else ⟨e.L, Tdel e.T d⟩

/-- What a piece of text does, what a function's value does: at some fuel. -/
structure Evs where
  c : Nat → Nat → LCode → Tmps → St → Option (Xit × Tmps × St)
  v : Nat → Value → List Value → St → Option (Value × St)
section
variable (C : Cfg) (E : Evs)
def eCall (fl : Nat) (s : St) : Option Value → Option (List Value) → OpR
  | some g, some vs => lift1 (E.v fl g vs s)
  | _, _ => none
def eOp (fl : Nat) (s : St) (T : Env) : LOp → OpR
  | .call f args => eCall E fl s (ev T f) (evs T args)
  | op => runOp fl s T op
/-- One operation of a region, its guard asked. -/
def eOper (fl : Nat) (o : LOper) (e : Env) (s : St) : Option (Env × St) := match want e o.guard with
  | some true => match eOp E fl s e o.op with
    | some (v, s') => some (putD e o.loc o.dst v, s')
    | none => none
  | some false => some (putD e o.loc o.dst none, s)
  | none => none
def eOps (fl : Nat) : List LOper → Env → St → Option (Env × St)
  | [], e, s => some (e, s)
  | o :: r, e, s => match eOper E fl o e s with
    | some (e', s') => eOps fl r e' s'
    | none => none
/-- The same with what was at hand ahead of each operation: the state; what a load reads. -/
abbrev Trail := List (St × Option (Nat × Nat × Nat))
def keyAt (e : Env) (o : LOper) : Option (Nat × Nat × Nat) := match want e o.guard with
  | some true => keyOf e o.op
  | _ => none
def eOpsD (fl : Nat) : List LOper → Env → St → Option (Env × St × Trail)
  | [], e, s => some (e, s, [(s, none)])
  | o :: r, e, s => match eOper E fl o e s with
    | some (e', s') => match eOpsD fl r e' s' with
      | some (e2, s2, tr) => some (e2, s2, (s, keyAt e o) :: tr)
      | none => none
    | none => none
def sameAt (key : Nat × Nat × Nat) (s s' : St) : Bool := C.eqt (s.ld key.1 key.2.1 key.2.2) (s'.ld key.1 key.2.1 key.2.2)
/-- A load and a change whose order is open: what is read is the same ahead of the change and behind it. -/
def pairOk (tr : Trail) (p : Nat × Nat) : Bool := match tr[p.1]?, tr[p.2]?, tr[p.2 + 1]? with
  | some (si, some key), some (sj, _), some (sk, _) => sameAt C key si sj && sameAt C key si sk
  | some (_, none), some _, some _ => true
  | _, _, _ => false
def pairsOk (tr : Trail) : List (Nat × Nat) → Bool
  | [] => true
  | p :: r => match pairOk C tr p with
    | true => pairsOk tr r
    | false => false
def eRegion : Option (Env × St) → Option (Xit × Tmps × St)
  | some (e, s) => some (.normal, e.T, s)
  | none => none
def eRegionD (pairs : List (Nat × Nat)) : Option (Env × St × Trail) → Option (Xit × Tmps × St)
  | some (e, s, tr) => match pairsOk C tr pairs with
    | true => some (.normal, e.T, s)
    | false => none
  | none => none
def eReg (fl : Nat) (ops : List LOper) (T : Tmps) (s : St) : List (Nat × Nat) → Option (Xit × Tmps × St)
  | [] => eRegion (eOps E fl ops ⟨[], T⟩ s)
  | p :: r => eRegionD C (p :: r) (eOpsD E fl ops ⟨[], T⟩ s)
def eThen (fl fn : Nat) (b : LCode) : Option (Xit × Tmps × St) → Option (Xit × Tmps × St)
  | some (.normal, T, s) => E.c fl fn b T s
  | r => r
def eCond (fl fn : Nat) (a b : LCode) (T : Tmps) (s : St) : Option Value → Option (Xit × Tmps × St)
  | some (.bool t) => E.c fl fn (if t then a else b) T s
  | _ => none
def eBlock (id : Nat) : Option (Xit × Tmps × St) → Option (Xit × Tmps × St)
  | some (.exit j, T, s) => if j = id then some (.normal, T, s) else some (.exit j, T, s)
  | r => r
def eRangeEnd (fl fn l : Nat) (T : Tmps) : Option (Value × St) → Option (Xit × Tmps × St)
  | some (_, s) => match s.hm.get l with
    | some (.loop 0 _ _ _ _ _ none) => some (.normal, T, s.del l)
    | some (.loop 2 _ _ _ _ _ (some c)) => E.c fl fn c T (s.del l)
    | _ => none
  | none => none
def eRange (fl fn : Nat) (ps : List Nat) (a b : LCode) (T : Tmps) (s : St) : Option Value → Option (Xit × Tmps × St)
  | some (.func (.func f) x y) => match C.prim f, C.funcs f with
    | none, some _ => eRangeEnd E fl fn s.k T (E.v fl (.func (.func f) x y) [.func (.yield s.k) #[] #[]] (s.new (.loop 0 T ps a b fn none)))
    | _, _ => none
  | _ => none
def eC (fl fn : Nat) (c : LCode) (T : Tmps) (s : St) : Option (Xit × Tmps × St) := match c with
  | .skip => some (.normal, T, s)
  | .region ops pairs => eReg C E fl ops T s pairs
  | .seq a b => eThen E fl fn b (E.c fl fn a T s)
  | .cond c a b => eCond E fl fn a b T s (ev ⟨[], T⟩ c)
  | .block id b => eBlock id (E.c fl fn b T s)
  | .loop kill b => eThen E fl fn (.loop kill b) (E.c fl fn b (Tdrop kill T) s)
  | .rangeFunc g ps a b => eRange C E fl fn ps a b T s (ev ⟨[], T⟩ g)
  | .exit id => some (.exit id, T, s)
  | .ret => some (.ret, T, s)
def eFEnd (s : St) (p : Bool) (res : List LRes) : Option (Xit × Tmps × St) → Option (Value × St)
  | none => none
  | some (.exit _, _, _) => none
  | some (_, T, s') => match resVs s' T res with
    | some vs => some (tupleOf vs, if p then settle s s' else s')
    | none => none
def eBody (fl f : Nat) (args : List Value) (s : St) : Option LFunc → Option (Value × St)
  | none => none
  | some F => if args.length ≤ F.n then eFEnd s (C.pure f) F.res (E.c (if C.pure f then s.k else fl) f F.body (argsT F.K 0 args) s) else none
def eF (fl f : Nat) (args : List Value) (s : St) : Option (Value × St) := match C.prim f with
  | some p => p fl args s
  | none => eBody C E fl f args s (C.funcs f)
/-- The record of the loop, its state and its jump set. -/
def setLoop (s : St) (l was st : Nat) (pend : Option LCode) : Option St := match s.hm.get l with
  | some (.loop st0 T ps a b fn none) => if st0 = was then some { s with hm := s.hm.set l (some (.loop st T ps a b fn pend)) } else none
  | _ => none
def eRoundEnd (l : Nat) : Option (Xit × Tmps × St) → Option (Value × St)
  | some (.normal, _, s) => match setLoop s l 1 0 none with
    | some s' => some (.bool true, s')
    | none => none
  | some (.ret, _, s) => match setLoop s l 1 2 (some .ret) with
    | some s' => some (.bool false, s')
    | none => none
  | some (.exit id, _, s) => match setLoop s l 1 2 (some (.exit id)) with
    | some s' => some (.bool false, s')
    | none => none
  | none => none
def eRoundBody (fl l : Nat) (b : LCode) (fn : Nat) : Option (Xit × Tmps × St) → Option (Value × St)
  | some (.normal, T', s) => match setLoop s l 0 1 none with
    | some s' => eRoundEnd l (E.c fl fn b T' s')
    | none => none
  | _ => none
def eRound (fl l : Nat) (a b : LCode) (fn : Nat) (s : St) : Option Tmps → Option (Value × St)
  | some T1 => eRoundBody E fl l b fn (E.c fl fn a T1 s)
  | none => none
def eYield (fl l : Nat) (args : List Value) (s : St) : Option LObj → Option (Value × St)
  | some (.loop 0 T ps a b fn none) => if fl ≤ l then eRound E fl l a b fn s (putAll ps args T) else none
  | _ => none
def eV (fl : Nat) (g : Value) (args : List Value) (s : St) : Option (Value × St) := match g with
  | .func (.func f) first cap => eF C E fl f (first.toList ++ args ++ cap.toList) s
  | .func (.yield l) _ _ => eYield E fl l args s (s.hm.get l)
  | _ => none
def build : Evs := ⟨eC C E, eV C E⟩
end
def mk (C : Cfg) : Nat → Evs
  | 0 => ⟨fun _ _ _ _ _ => none, fun _ _ _ _ => none⟩
  | n + 1 => build C (mk C n)
end Go.Ev
/- The trie: what is found behind a change. -/
namespace Go.Ev
namespace Trie
variable {α : Type}
def val : List Bool → Nat
  | [] => 0
  | b :: p => (if b then 1 else 0) + 2 * val p
theorem val_bits : ∀ (f n : Nat), n ≤ f → val (bits f n) = n := by
  intro f
  induction f with
  | zero => intro n h; have : n = 0 := by omega
            subst this; rfl
  | succ f ih =>
    intro n h
    cases n with
    | zero => rfl
    | succ n =>
      simp only [bits, val]
      rw [ih _ (by omega)]
      by_cases hb : (n + 1) % 2 = 1
      · rw [show Nat.beq ((n + 1) % 2) 1 = true by rw [hb]; rfl]; simp; omega
      · have h0 : (n + 1) % 2 = 0 := by omega
        rw [show Nat.beq ((n + 1) % 2) 1 = false by rw [h0]; rfl]; simp; omega
theorem bits_inj {n m : Nat} (h : bits n n = bits m m) : n = m := by
  rw [← val_bits n n (Nat.le_refl _), h, val_bits m m (Nat.le_refl _)]
theorem findB_putB_same (x : Option α) : ∀ (p : List Bool) (t : Trie α), findB (putB x p t) p = x := by
  intro p
  induction p with
  | nil => intro t; cases t <;> rfl
  | cons b p ih => intro t; cases t <;> cases b <;> simp [putB, findB, ih]
theorem findB_putB_other (x : Option α) : ∀ (p q : List Bool) (t : Trie α), p ≠ q → findB (putB x p t) q = findB t q := by
  intro p
  induction p with
  | nil => intro q t h
           cases q with
           | nil => exact absurd rfl h
           | cons b q => cases t <;> cases b <;> simp [putB, findB]
  | cons a p ih =>
    intro q t h
    cases q with
    | nil => cases t <;> cases a <;> simp [putB, findB]
    | cons b q =>
      have hl : ∀ u : Trie α, p ≠ q → findB (putB x p u) q = findB u q := fun u => ih q u
      cases t <;> cases a <;> cases b <;> simp only [putB, findB]
      all_goals first
        | rfl
        | (rw [hl _ (fun e => h (by rw [e]))]; done)
        | (rw [hl _ (fun e => h (by rw [e]))]; simp [findB])
@[simp] theorem get_leaf (n : Nat) : (leaf : Trie α).get n = none := by unfold get; generalize bits n n = p; cases p <;> rfl
theorem get_set (t : Trie α) (n m : Nat) (x : Option α) : (t.set n x).get m = if m = n then x else t.get m := by
  unfold get set
  by_cases h : m = n
  · subst h; rw [if_pos rfl, findB_putB_same]
  · rw [if_neg h, findB_putB_other]; exact fun e => h (bits_inj e).symm
@[simp] theorem get_set_same (t : Trie α) (n : Nat) (x : Option α) : (t.set n x).get n = x := by rw [get_set, if_pos rfl]
theorem get_set_ne (t : Trie α) {n m : Nat} (x : Option α) (h : m ≠ n) : (t.set n x).get m = t.get m := by rw [get_set, if_neg h]
end Trie
theorem Tget_cons (i : Nat) (v : Value) (T : Tmps) (j : Nat) : Tget ((i, v) :: T) j = if i = j then some v else Tget T j := by
  simp only [Tget]
  by_cases h : i = j
  · subst h; rw [show Nat.beq i i = true from Nat.beq_refl i]; simp
  · rw [show Nat.beq i j = false from by cases e : Nat.beq i j; rfl; exact absurd (Nat.eq_of_beq_eq_true e) h]; simp [h]
theorem nbeq (i j : Nat) : Nat.beq i j = decide (i = j) := by
  by_cases h : i = j
  · subst h; simp
  · rw [show Nat.beq i j = false from by cases e : Nat.beq i j; rfl; exact absurd (Nat.eq_of_beq_eq_true e) h]; simp [h]
theorem Tget_Tput (T : Tmps) (i : Nat) (v : Value) (j : Nat) : Tget (Tput T i v) j = if i = j then some v else Tget T j := by
  induction T with
  | nil => simp only [Tput]; rw [Tget_cons]
  | cons p r ih =>
    obtain ⟨a, u⟩ := p
    simp only [Tput, nbeq]
    by_cases h : a = i
    · subst h; simp only [decide_true]; rw [Tget_cons, Tget_cons]; split <;> simp_all
    · simp only [decide_false, h]
      split
      · rw [Tget_cons]
      · rw [Tget_cons, ih, Tget_cons]; split <;> simp_all <;> (intro e; exact absurd e.symm h)
theorem Tget_Tdel (T : Tmps) (i j : Nat) : Tget (Tdel T i) j = if i = j then none else Tget T j := by
  induction T with
  | nil => simp [Tdel, Tget]
  | cons p r ih =>
    obtain ⟨a, u⟩ := p
    simp only [Tdel, nbeq]
    by_cases h : a = i
    · subst h; simp only [decide_true]; rw [ih, Tget_cons]; split <;> simp_all
    · simp only [decide_false, h]; rw [Tget_cons, ih, Tget_cons]; split <;> simp_all <;> (intro e; exact absurd e.symm h)
theorem memN_iff (n : Nat) (l : List Nat) : memN n l = true ↔ n ∈ l := by
  induction l with
  | nil => simp [memN]
  | cons m r ih =>
    simp only [memN, nbeq]
    by_cases h : n = m
    · simp [h]
    · simp [h, ih]
theorem Tget_Tdrop (T : Tmps) (d : List Nat) (j : Nat) (v : Value) (h : Tget (Tdrop d T) j = some v) : Tget T j = some v := by
  induction T with
  | nil => simp [Tdrop, Tget] at h
  | cons p r ih =>
    obtain ⟨a, u⟩ := p
    simp only [Tdrop] at h
    rw [Tget_cons]
    cases hm : memN a d with
    | true =>
      rw [hm] at h
      simp only at h
      by_cases e : a = j
      · subst e
        have : ∀ r : Tmps, Tget (Tdrop d r) a = none := by
          intro r
          induction r with
          | nil => rfl
          | cons q r ih2 =>
            obtain ⟨b, x⟩ := q
            simp only [Tdrop]
            cases hb : memN b d with
            | true => exact ih2
            | false =>
              simp only
              rw [Tget_cons, ih2]
              by_cases e2 : b = a
              · subst e2; rw [hm] at hb; cases hb
              · rw [if_neg e2]
        rw [this] at h; cases h
      · rw [if_neg e]; exact ih h
    | false =>
      rw [hm] at h
      simp only at h
      rw [Tget_cons] at h
      split at h
      · rename_i e; rw [if_pos e]; exact h
      · rename_i e; rw [if_neg e]; exact ih h
end Go.Ev
/- From the model's code to the resolved code. -/
namespace Go.Ev

def under (P : Tables) (t : TypeId) : Option TypeDesc :=
  match P.types[t]? with
  | some (i : TypeInfo) => match i.desc with
    | .named _ u => match P.types[u]? with
      | some (j : TypeInfo) => some j.desc
      | none => none
    | d => some d
  | none => none
def leafK (P : Tables) (t : TypeId) : Option Nat := match under P t with
  | some .bool => some 0
  | some (.int _) => some 1
  | some .string => some 2
  | _ => none
/-- Fields of one cell each, one behind the other. -/
def leafsF (P : Tables) : Nat → List Field → Option (List Nat)
  | _, [] => some []
  | i, f :: r => match leafK P f.type, leafsF P (i + 1) r with
    | some k, some l => if f.name ≠ "_" ∧ f.offset = i then some (k :: l) else none
    | _, _ => none
def tinfo (P : Tables) (t : TypeId) : Option TypeInfo := P.types[t]?
def tsize (P : Tables) (t : TypeId) : Option Nat := (P.types[t]?).map fun (i : TypeInfo) => i.size
def tbytes (P : Tables) (t : TypeId) : Option Nat := (P.types[t]?).map fun (i : TypeInfo) => i.bytes
def tzero (P : Tables) (t : TypeId) : Option (List Value) := match P.types[t]? with
  | some i => i.zero.map fun z => z.cells.toList
  | none => none
def tagg (P : Tables) (t : TypeId) : Option (Option Nat) := match under P t with
  | some (.struct _) | some (.array _ _) => (tsize P t).map some
  | some _ => some none
  | none => none
def eqk (P : Program) (t : TypeId) : EqK := match under P.toTables t with
  | some .bool => .bool
  | some (.pointer e) => match tsize P.toTables e with
    | some (_ + 1) => .ptr
    | _ => .none
  | some (.slice _) => .slice
  | some (.map _ _) => .map
  | some (.func _ _ _) => .func
  | some (.struct fs) => match leafsF P.toTables 0 fs.toList with
    | some ks => if P.stoodInHeld t = false ∧ P.eqGuardType P.depth t = false then .flat ks else .none
    | none => .none
  | some (.array n e) => match leafK P.toTables e, tsize P.toTables e with
    | some k, some 1 => if P.eqGuardType P.depth t = false then .flat (List.replicate n k) else .none
    | _, _ => .none
  | _ => .none
def partsOf (places : Nat → Option (Nat × Nat)) : List (Nat × Operand) → Option (List (Nat × Nat × Operand))
  | [] => some []
  | (i, x) :: r => match places i with
    | some (o, n) => match partsOf places r with
      | some l => some ((o, n, x) :: l)
      | none => none
    | none => none
def placesOf (P : Tables) : List Field → Option (List (Nat × Nat))
  | [] => some []
  | f :: r => match tsize P f.type, placesOf P r with
    | some n, some l => some ((f.offset, n) :: l)
    | _, _ => none
/-- `m`: the mark that this operation bears (what it lays or writes stays as it is). -/
def compOp (P : Program) (m : Bool) (o : Oper) : Option LOp :=
  match o.op with
  | .move x | .assign x => some (.mov x)
  | .nilCheck x => some (.nilCheck x)
  | .pick c a b => some (.pick c a b)
  | .alloc e => match tsize P.toTables e, tzero P.toTables e with
    | some n, some z => if z.length = n then some (.alloc n z) else none
    | _, _ => none
  | .box e x => (tsize P.toTables e).map fun n => .box n x m
  | .build t ps => match under P.toTables t, tzero P.toTables t with
    | some (.struct fs), some z => match placesOf P.toTables fs.toList with
      | some pl => (partsOf (fun i => pl[i]?) ps.toList).map fun l => .build z l
      | none => none
    | some (.array _ e), some z => match tsize P.toTables e with
      | some n => (partsOf (fun i => some (i * n, n)) ps.toList).map fun l => .build z l
      | none => none
    | _, _ => none
  | .buildSlice t len ps => match under P.toTables t with
    | some (.slice e) => match tsize P.toTables e, tzero P.toTables e with
      | some n, some z => if len * n ≤ 2 ^ 24 ∧ z.length = n ∧ 0 < n then (partsOf (fun i => some (i * n, n)) ps.toList).map fun l => .buildSlice n len z l m else none
      | _, _ => none
    | _ => none
  | .load t a => (tagg P.toTables t).map fun n => .load n a
  | .store t a x => (tsize P.toTables t).map fun n => .store n a x m
  | .binOp op t x y _ => some (.bin op (eqk P t) x y)
  | .unOp op _ x => some (.un op x)
  | .convert s d x => match under P.toTables s, under P.toTables d with
    | some (.int _), some (.int k) => some (.conv (.int k) x)
    | some .string, some .string => some (.conv .str x)
    | some (.slice e), some .string => match under P.toTables e with
      | some (.int .u8) => some (.conv .bytesStr x)
      | _ => none
    | some .string, some (.slice e) => match under P.toTables e with
      | some (.int .u8) => some (.conv .strBytes x)
      | _ => none
    | _, _ => none
  | .makeFunc fn a b => some (.makeFunc fn a.toList b.toList)
  | .makeMap _ none => some .makeMap
  | .makeSlice t l c => match under P.toTables t with
    | some (.slice e) => match tsize P.toTables e, tbytes P.toTables e, tzero P.toTables e with
      | some n, some b, some z => if z.length = n ∧ 0 < n then some (.makeSlice n b z l c) else none
      | _, _, _ => none
    | _ => none
  | .slice t x lo hi mx => match under P.toTables t with
    | some .string => if mx.isNone then some (.sliceStr x lo hi) else none
    | some (.slice e) => (tsize P.toTables e).map fun n => .sliceSl n x lo hi mx
    | some (.array len e) => (tsize P.toTables e).map fun n => .sliceArr n len x lo hi mx
    | _ => none
  | .fieldAddr t x f => match under P.toTables t with
    | some (.struct fs) => match fs[f]? with
      | some f => if (tsize P.toTables f.type).getD 0 = 0 then none else some (.fieldAddr f.offset x)
      | none => none
    | _ => none
  | .field t x f => match under P.toTables t with
    | some (.struct fs) => match fs[f]? with
      | some f => (tagg P.toTables f.type).map fun a => .field a f.offset x
      | none => none
    | _ => none
  | .indexAddr t x i => match under P.toTables t with
    | some (.slice e) => (tsize P.toTables e).map fun n => .indexSl n x i
    | some (.array len e) => (tsize P.toTables e).map fun n => .indexArrAddr n len x i
    | _ => none
  | .index t x i => match under P.toTables t with
    | some .string => some (.indexStr x i)
    | some (.array len e) => match tsize P.toTables e, tagg P.toTables e with
      | some n, some a => some (.indexArr a n len x i)
      | _, _ => none
    | _ => none
  | .lookup t m k ok => match under P.toTables t with
    | some (.map kt e) => match leafK P.toTables kt, P.types[e]? with
      | some kd, some i => i.zero.map fun z => .lookup kd z m k ok
      | _, _ => none
    | _ => none
  | .mapUpdate t m k v => match under P.toTables t with
    | some (.map kt _) => match leafK P.toTables kt with
      | some kd => some (.mapUpdate kd m k v)
      | none => none
    | _ => none
  | .extract x i => some (.extract x i)
  | .makeInterface t x => match under P.toTables t with
    | some (.interface _) => none
    | some _ => some (.makeIface t x)
    | none => none
  | .panic _ => some .panic
  | .call c => match c.callee with
    | .value f => some (.call f c.args.toList)
    | .invoke _ _ => none
    | .builtin b => match b, c.argTypes.toList, c.args.toList with
      | .append, [t, u], [x, y] => match under P.toTables t, under P.toTables u with
        | some (.slice e), some (.int _) => match tsize P.toTables e, tbytes P.toTables e, tzero P.toTables e with
          | some n, some b, some z => if 0 < n ∧ z.length = n then some (.appendZ n b z x y) else none
          | _, _, _ => none
        | some (.slice e), some _ => match tsize P.toTables e, tbytes P.toTables e, tzero P.toTables e with
          | some n, some b, some z => if 0 < n ∧ z.length = n then some (.append n b x y) else none
          | _, _, _ => none
        | _, _ => none
      | .len, [t], [x] => match under P.toTables t with
        | some (.slice _) => some (.len false x)
        | some .string => some (.len true x)
        | _ => none
      | .copy, [t, _], [x, y] => match under P.toTables t with
        | some (.slice e) => (tsize P.toTables e).map fun n => .copy n x y
        | _ => none
      | .clear, [t], [x] => match under P.toTables t with
        | some (.slice e) => match tsize P.toTables e, tzero P.toTables e with
          | some n, some z => if z.length = n ∧ 0 < n then some (.clear n z x) else none
          | _, _ => none
        | _ => none
      | .cap, [t], [x] => match under P.toTables t with
        | some (.slice _) => some (.cap x)
        | _ => none
      | .min, _, [x, y] => some (.min2 x y)
      | .max, _, [x, y] => some (.max2 x y)
      | _, _, _ => none
  | _ => none
/-- Of each operation which stand before it, as bits. -/
def befs (ops : List Oper) : List Nat := (Region.before ops.toArray).toList
def memP (i j : Nat) : List (Nat × Nat) → Bool
  | [] => false
  | (a, b) :: r => match Nat.beq i a && Nat.beq j b with
    | true => true
    | false => memP i j r
/-- `A`: the marks: a region's number, an operation's place. -/
def compOpers (P : Program) (A : List (Nat × Nat)) (id : Nat) (all : List Oper) : Nat → List Oper → Option (List LOper)
  | _, [] => some []
  | i, o :: r => match compOp P (memP id i A) o with
    | none => none
    | some op =>
      match (match o.guard with | none => some none | some (j, w) => match (all[j]?).bind (·.dst) with | some d => some (some (d, w)) | none => none) with
      | none => none
      | some g => match compOpers P A id all (i + 1) r with
        | some l => some (⟨o.dst, false, op, g⟩ :: l)
        | none => none
def isChange : LOp → Bool
  | .store .. | .mapUpdate .. | .call .. | .append .. | .appendZ .. | .copy .. | .clear .. => true
  | _ => false
def isLoad : LOp → Bool
  | .load .. => true
  | _ => false
/-- Reads that are no load: they may not stand beside a change with their order open. -/
def isLook : LOp → Bool
  | .lookup .. | .conv .bytesStr _ | .bin _ .ptr _ _ => true
  | _ => false
def unord (b : List Nat) (i j : Nat) : Bool := if i < j then !(b.getD j 0).testBit i else !(b.getD i 0).testBit j

/-! Which slots an operation reads. -/
def opd : Operand → List Nat
  | .tmp t => [t]
  | _ => []
def opds (l : List Operand) : List Nat := l.flatMap opd
def oopd : Option Operand → List Nat
  | some x => opd x
  | none => []
def partsR (l : List (Nat × Nat × Operand)) : List Nat := l.flatMap fun p => opd p.2.2
def readsO : LOp → List Nat
  | .mov x | .nilCheck x | .box _ x _ | .load _ x | .un _ x | .conv _ x | .fieldAddr _ x | .field _ _ x | .extract x _ | .cap x | .makeIface _ x | .len _ x | .clear _ _ x => opd x
  | .pick c a b => opd c ++ opd a ++ opd b
  | .alloc .. | .makeMap | .panic => []
  | .build _ l => partsR l
  | .buildSlice _ _ _ l _ => partsR l
  | .store _ x y _ | .bin _ _ x y | .makeSlice _ _ _ x y | .indexSl _ x y | .indexArrAddr _ _ x y | .indexStr x y | .indexArr _ _ _ x y | .lookup _ _ x y _ | .append _ _ x y | .appendZ _ _ _ x y | .copy _ x y | .min2 x y | .max2 x y => opd x ++ opd y
  | .makeFunc _ a b => opds a ++ opds b
  | .sliceStr x a b => opd x ++ oopd a ++ oopd b
  | .sliceSl _ x a b c | .sliceArr _ _ x a b c => opd x ++ oopd a ++ oopd b ++ oopd c
  | .mapUpdate _ x y z => opd x ++ opd y ++ opd z
  | .call f l => opd f ++ opds l
def gslot (o : LOper) : List Nat := match o.guard with
  | some (g, _) => [g]
  | none => []
def odst (o : LOper) : List Nat := match o.dst with
  | some d => [d]
  | none => []
def reads (o : LOper) : List Nat := gslot o ++ readsO o.op
def disj : List Nat → List Nat → Bool
  | [], _ => true
  | a :: l, m => !memN a m && disj l m
/-- Two operations whose order is open do not touch one slot, do not both change, and none changes where another looks. -/
def pairFree (b : List Nat) (l : List LOper) (i j : Nat) : Bool :=
  match l[i]?, l[j]? with
  | some x, some y => !unord b i j || (disj (odst x) (odst y ++ reads y) && disj (odst y) (reads x) && !(isChange x.op && isChange y.op) && !(isChange x.op && isLook y.op) && !(isLook x.op && isChange y.op))
  | _, _ => true
def allLt (p : Nat → Bool) : Nat → Bool
  | 0 => true
  | n + 1 => p n && allLt p n
def edgesBack (ops : List Oper) : Bool := allLt (fun i => match ops[i]? with
  | some o => o.after.toList.all fun e => !Region.binds .any e || Nat.blt e.on i
  | none => true) ops.length
def drawOk (ops : List Oper) (b : List Nat) (l : List LOper) : Bool := edgesBack ops && allLt (fun j => allLt (fun i => pairFree b l i j) j) l.length
def pairsAt (b : List Nat) (l : List LOper) (i : Nat) : List LOper → Nat → List (Nat × Nat)
  | [], _ => []
  | y :: r, j => if isChange y.op && unord b i j && !Nat.beq i j then (i, j) :: pairsAt b l i r (j + 1) else pairsAt b l i r (j + 1)
def pairsOf (b : List Nat) (l : List LOper) : List LOper → Nat → List (Nat × Nat)
  | [], _ => []
  | x :: r, i => if isLoad x.op then pairsAt b l i l 0 ++ pairsOf b l r (i + 1) else pairsOf b l r (i + 1)
def compReg (P : Program) (A : List (Nat × Nat)) (id : Nat) (ops : List Oper) (d : Bool) : Option LCode :=
  match compOpers P A id ops 0 ops with
  | none => none
  | some l => if d then
      let b := befs ops
      if drawOk ops b l then some (.region l (pairsOf b l l 0)) else none
    else some (.region l [])
def comp (P : Program) (A : List (Nat × Nat)) : Code → Option LCode
  | .skip => some .skip
  | .region id ops d => compReg P A id ops.toList d
  | .seq a b => match comp P A a, comp P A b with
    | some a, some b => some (.seq a b)
    | _, _ => none
  | .cond c a b => match comp P A a, comp P A b with
    | some a, some b => some (.cond c a b)
    | _, _ => none
  | .block id b => match comp P A b with
    | some b => some (.block id b)
    | none => none
  | .loop b => match comp P A b with
    | some b => some (.loop [] b)
    | none => none
  | .rangeFunc f ps a b => match comp P A a, comp P A b with
    | some a, some b => some (.rangeFunc f ps.toList a b)
    | _, _ => none
  | .exit id => some (.exit id)
  | .ret => some .ret
  | _ => none
def addN (l : List Nat) (n : Nat) : List Nat := if memN n l then l else n :: l
def addAll (w : List Nat) : List Nat → List Nat → List Nat
  | [], acc => acc
  | n :: r, acc => addAll w r (if memN n w then acc else addN acc n)
/-- of a region: reads that it does not write before. -/
def exposed : List LOper → List Nat → List Nat → List Nat
  | [], _, acc => acc
  | o :: r, w, acc => exposed r (odst o ++ w) (addAll w (reads o) acc)
def wanted : LCode → List Nat → List Nat
  | .region ops _, acc => exposed ops [] acc
  | .seq a b, acc => wanted b (wanted a acc)
  | .cond c a b, acc => wanted b (wanted a (addAll [] (opd c) acc))
  | .block _ b, acc => wanted b acc
  | .loop _ b, acc => wanted b acc
  | .rangeFunc f ps a b, acc => wanted b (wanted a (addAll [] (opd f ++ ps) acc))
  | _, acc => acc
def setLocs (K : List Nat) : List LOper → List LOper
  | [] => []
  | o :: r => ⟨o.dst, (match o.dst with | some d => !memN d K | none => false), o.op, o.guard⟩ :: setLocs K r
def setLoc (K : List Nat) : LCode → LCode
  | .region ops p => .region (setLocs K ops) p
  | .seq a b => .seq (setLoc K a) (setLoc K b)
  | .cond c a b => .cond c (setLoc K a) (setLoc K b)
  | .block id b => .block id (setLoc K b)
  | .loop k b => .loop k (setLoc K b)
  | .rangeFunc f ps a b => .rangeFunc f ps (setLoc K a) (setLoc K b)
  | c => c
def resSlots : List LRes → List Nat
  | [] => []
  | .tmp t :: r => t :: resSlots r
  | .cell t _ :: r => t :: resSlots r
def compRes (P : Tables) : List ResultVar → Option (List LRes)
  | [] => some []
  | .tmp t :: r => match compRes P r with
    | some l => some (.tmp t :: l)
    | none => none
  | .cell a t :: r => match tagg P t, compRes P r with
    | some n, some l => some (.cell a n :: l)
    | _, _ => none
/-- All slots that a text writes lie below n. -/
def below (n : Nat) : LCode → Bool
  | .region ops _ => ops.all fun o => match o.dst with | some d => Nat.blt d n | none => true
  | .seq a b => below n a && below n b
  | .cond _ a b => below n a && below n b
  | .block _ b => below n b
  | .loop _ b => below n b
  | .rangeFunc _ ps a b => ps.all (fun d => Nat.blt d n) && below n a && below n b
  | _ => true
def compF (P : Program) (A : List (Nat × Nat)) (f : Func) : Option LFunc := match f.body with
  | none => none
  | some c => match comp P A c, compRes P.toTables f.results.toList with
    | some b, some l => if below f.ntmps b then
        let K := wanted b (resSlots l)
        some ⟨f.ntmps, K, l, setLoc K b⟩
      else none
    | _, _ => none
end Go.Ev
/- The relation between logical and real: values, objects, states. -/
namespace Go.Ev

/-- Where a logical block lies: the real block, how far behind its begin, how many cells that has. -/
structure Real where
  r : Nat
  d : Nat
  n : Nat
/-- What a slice's third part says of its capacity. -/
def SpotOk (sp : Option Nat) (o' cap cap' n : Nat) : Prop := match sp with
  | some 0 => cap = cap'
  | some (q + 1) => o' + cap' * (q + 1) ≤ n
  | none => False
abbrev Inj := Nat → Option Real

mutual
inductive VRel (ι : Inj) : Value → Value → Prop
  | bool (b : Bool) : VRel ι (.bool b) (.bool b)
  | int (k : IntKind) (n : Int) : VRel ι (.int k n) (.int k n)
  | string (s : ByteArray) : VRel ι (.string s) (.string s)
  | ptrNil : VRel ι (.pointer none) (.pointer none)
  | ptr {b o : Nat} {R : Real} (h : ι b = some R) : VRel ι (.pointer (some ⟨b, o, none⟩)) (.pointer (some ⟨R.r, o + R.d, none⟩))
  | sliceNil (l c : Nat) (h : l ≤ c) : VRel ι (.slice none l c) (.slice none l c)
  | slice {b o o' : Nat} {sp : Option Nat} {len cap cap' : Nat} {R : Real} (h : ι b = some R) (ho : cap = 0 ∨ o' = o + R.d) (hc : cap ≤ cap') (hl : len ≤ cap)
      (hn : SpotOk sp o' cap cap' R.n) : VRel ι (.slice (some ⟨b, o, sp⟩) len cap) (.slice (some ⟨R.r, o', none⟩) len cap')
  | mapNil : VRel ι (.map none) (.map none)
  | map {b : Nat} {R : Real} (h : ι b = some R) : VRel ι (.map (some b)) (.map (some R.r))
  | func {f : Nat} {a a' c c' : Array Value} (h1 : VRels ι a.toList a'.toList) (h2 : VRels ι c.toList c'.toList) : VRel ι (.func (.func f) a c) (.func (.func f) a' c')
  | yield {l : Nat} {R : Real} (h : ι l = some R) : VRel ι (.func (.yield l) #[] #[]) (.func (.yield R.r) #[] #[])
  | nilFunc : VRel ι .nilFunc .nilFunc
  | nilIface : VRel ι .nilIface .nilIface
  | iface (t : Nat) {v v' : Value} (h : VRel ι v v') : VRel ι (.iface t v) (.iface t v')
  | agg {c c' : Array Value} (h : VRels ι c.toList c'.toList) : VRel ι (.agg c) (.agg c')
  | tuple {c c' : Array Value} (h : VRels ι c.toList c'.toList) : VRel ι (.tuple c) (.tuple c')
inductive VRels (ι : Inj) : List Value → List Value → Prop
  | nil : VRels ι [] []
  | cons {v v' : Value} {l l' : List Value} (h : VRel ι v v') (t : VRels ι l l') : VRels ι (v :: l) (v' :: l')
end

def Ext (ι ι' : Inj) : Prop := ∀ b R, ι b = some R → ι' b = some R
theorem Ext.refl (ι : Inj) : Ext ι ι := fun _ _ h => h
theorem Ext.trans {a b c : Inj} (h : Ext a b) (k : Ext b c) : Ext a c := fun x R hx => k x R (h x R hx)

mutual
theorem VRel.mono {ι ι' : Inj} (hx : Ext ι ι') : ∀ {v v' : Value}, VRel ι v v' → VRel ι' v v'
  | _, _, .bool b => .bool b
  | _, _, .int k n => .int k n
  | _, _, .string s => .string s
  | _, _, .ptrNil => .ptrNil
  | _, _, .ptr h => .ptr (hx _ _ h)
  | _, _, .sliceNil l c h => .sliceNil l c h
  | _, _, .slice h ho hc hl hn => .slice (hx _ _ h) ho hc hl hn
  | _, _, .mapNil => .mapNil
  | _, _, .map h => .map (hx _ _ h)
  | _, _, .func h1 h2 => .func (h1.mono hx) (h2.mono hx)
  | _, _, .yield h => .yield (hx _ _ h)
  | _, _, .nilFunc => .nilFunc
  | _, _, .nilIface => .nilIface
  | _, _, .iface t h => .iface t (h.mono hx)
  | _, _, .agg h => .agg (h.mono hx)
  | _, _, .tuple h => .tuple (h.mono hx)
theorem VRels.mono {ι ι' : Inj} (hx : Ext ι ι') : ∀ {l l' : List Value}, VRels ι l l' → VRels ι' l l'
  | _, _, .nil => .nil
  | _, _, .cons h t => .cons (h.mono hx) (t.mono hx)
end

section lists
variable {ι : Inj}
theorem VRels.length : ∀ {l l' : List Value}, VRels ι l l' → l.length = l'.length
  | _, _, .nil => rfl
  | _, _, .cons _ t => by simp [t.length]
theorem VRels.append : ∀ {l l' m m' : List Value}, VRels ι l l' → VRels ι m m' → VRels ι (l ++ m) (l' ++ m')
  | _, _, _, _, .nil, h => h
  | _, _, _, _, .cons h t, k => .cons h (t.append k)
theorem VRels.take : ∀ (n : Nat) {l l' : List Value}, VRels ι l l' → VRels ι (l.take n) (l'.take n)
  | 0, _, _, _ => by simp; exact .nil
  | _ + 1, _, _, .nil => .nil
  | n + 1, _, _, .cons h t => .cons h (t.take n)
theorem VRels.drop : ∀ (n : Nat) {l l' : List Value}, VRels ι l l' → VRels ι (l.drop n) (l'.drop n)
  | 0, _, _, h => h
  | _ + 1, _, _, .nil => .nil
  | n + 1, _, _, .cons _ t => t.drop n
theorem VRels.get : ∀ {l l' : List Value}, VRels ι l l' → ∀ (i : Nat) (v : Value), l[i]? = some v → ∃ v', l'[i]? = some v' ∧ VRel ι v v'
  | _, _, .nil, i, v, h => by simp at h
  | _, _, .cons h _, 0, v, e => by simp at e; subst e; exact ⟨_, rfl, h⟩
  | _, _, .cons _ t, i + 1, v, e => by simp at e; simpa using t.get i v e
theorem VRels.of_get : ∀ {l l' : List Value}, l.length = l'.length → (∀ (i : Nat) (v v' : Value), l[i]? = some v → l'[i]? = some v' → VRel ι v v') → VRels ι l l'
  | [], [], _, _ => .nil
  | v :: l, v' :: l', hl, h => .cons (h 0 v v' rfl rfl) (VRels.of_get (by simpa using hl) fun i x x' hx hx' => h (i + 1) x x' (by simpa using hx) (by simpa using hx'))
  | [], _ :: _, hl, _ => by simp at hl
  | _ :: _, [], hl, _ => by simp at hl
theorem VRels.singleton {v : Value} {l' : List Value} (h : VRels ι [v] l') : ∃ v', l' = [v'] ∧ VRel ι v v' := by
  cases h with
  | cons h t => cases t; exact ⟨_, rfl, h⟩
theorem VRels.one {v v' : Value} (h : VRel ι v v') : VRels ι [v] [v'] := .cons h .nil
end lists

/-! ### Cells: of some nothing is known -/
inductive CRels (ι : Inj) : List Value → List Value → Prop
  | nil : CRels ι [] []
  | junk {v v' : Value} {l l' : List Value} (h : isJ v = true) (t : CRels ι l l') : CRels ι (v :: l) (v' :: l')
  | cons {v v' : Value} {l l' : List Value} (h : VRel ι v v') (t : CRels ι l l') : CRels ι (v :: l) (v' :: l')
section cells
variable {ι : Inj}
theorem VRels.c : ∀ {l l' : List Value}, VRels ι l l' → CRels ι l l'
  | _, _, .nil => .nil
  | _, _, .cons h t => .cons h t.c
theorem CRels.v : ∀ {l l' : List Value}, CRels ι l l' → noJ l = true → VRels ι l l'
  | _, _, .nil, _ => .nil
  | _, _, .junk h t, e => by simp [noJ, h] at e
  | v :: l, _, .cons h t, e => .cons h (t.v (by
      simp only [noJ] at e
      split at e
      · cases e
      · exact e))
theorem CRels.mono {ι' : Inj} (hx : Ext ι ι') : ∀ {l l' : List Value}, CRels ι l l' → CRels ι' l l'
  | _, _, .nil => .nil
  | _, _, .junk h t => .junk h (t.mono hx)
  | _, _, .cons h t => .cons (h.mono hx) (t.mono hx)
theorem CRels.length : ∀ {l l' : List Value}, CRels ι l l' → l.length = l'.length
  | _, _, .nil => rfl
  | _, _, .junk _ t => by simp [t.length]
  | _, _, .cons _ t => by simp [t.length]
theorem CRels.append : ∀ {l l' m m' : List Value}, CRels ι l l' → CRels ι m m' → CRels ι (l ++ m) (l' ++ m')
  | _, _, _, _, .nil, h => h
  | _, _, _, _, .junk h t, k => .junk h (t.append k)
  | _, _, _, _, .cons h t, k => .cons h (t.append k)
theorem CRels.take : ∀ (n : Nat) {l l' : List Value}, CRels ι l l' → CRels ι (l.take n) (l'.take n)
  | 0, _, _, _ => by simp; exact .nil
  | _ + 1, _, _, .nil => .nil
  | n + 1, _, _, .junk h t => .junk h (t.take n)
  | n + 1, _, _, .cons h t => .cons h (t.take n)
theorem CRels.drop : ∀ (n : Nat) {l l' : List Value}, CRels ι l l' → CRels ι (l.drop n) (l'.drop n)
  | 0, _, _, h => h
  | _ + 1, _, _, .nil => .nil
  | n + 1, _, _, .junk _ t => t.drop n
  | n + 1, _, _, .cons _ t => t.drop n
theorem CRels.junks : ∀ (l' : List Value), CRels ι (List.replicate l'.length (.chan none)) l'
  | [] => .nil
  | _ :: l => .junk rfl (CRels.junks l)
end cells

/-! ### What is written out in the program -/
mutual
def constOk : Value → Bool
  | .bool _ | .int _ _ | .string _ | .pointer none | .map none | .nilFunc | .nilIface => true
  | .slice none l c => decide (l ≤ c)
  | .agg ⟨c⟩ | .tuple ⟨c⟩ => constsOk c
  | .iface _ v => constOk v
  | _ => false
def constsOk : List Value → Bool
  | [] => true
  | v :: r => constOk v && constsOk r
end
mutual
theorem VRel.const (ι : Inj) : ∀ (v : Value), constOk v = true → VRel ι v v
  | .bool b, _ => .bool b
  | .int k n, _ => .int k n
  | .string s, _ => .string s
  | .pointer none, _ => .ptrNil
  | .map none, _ => .mapNil
  | .nilFunc, _ => .nilFunc
  | .nilIface, _ => .nilIface
  | .slice none l c, h => .sliceNil l c (by simpa [constOk] using h)
  | .agg ⟨c⟩, h => .agg (VRels.const ι c (by simpa [constOk] using h))
  | .tuple ⟨c⟩, h => .tuple (VRels.const ι c (by simpa [constOk] using h))
  | .iface t v, h => .iface t (VRel.const ι v (by simpa [constOk] using h))
  | .pointer (some _), h => by simp [constOk] at h
  | .map (some _), h => by simp [constOk] at h
  | .slice (some _) _ _, h => by simp [constOk] at h
  | .float _ _, h => by simp [constOk] at h
  | .complex _ _ _, h => by simp [constOk] at h
  | .chan _, h => by simp [constOk] at h
  | .func _ _ _, h => by simp [constOk] at h
theorem VRels.const (ι : Inj) : ∀ (l : List Value), constsOk l = true → VRels ι l l
  | [], _ => .nil
  | v :: r, h => by
    simp [constsOk] at h
    exact .cons (VRel.const ι v h.1) (VRels.const ι r h.2)
end
def opdOk : Operand → Bool
  | .const v => constOk v
  | _ => true
def opdsOk (l : List Operand) : Bool := l.all opdOk
def oopdOk : Option Operand → Bool
  | some x => opdOk x
  | none => true
def partsOk (l : List (Nat × Nat × Operand)) : Bool := l.all fun p => opdOk p.2.2
def lopOk : LOp → Bool
  | .mov x | .nilCheck x | .box _ x _ | .load _ x | .un _ x | .conv _ x | .fieldAddr _ x | .field _ _ x | .extract x _ | .cap x | .makeIface _ x | .len _ x => opdOk x
  | .clear _ z x => opdOk x && constsOk z
  | .pick c a b => opdOk c && opdOk a && opdOk b
  | .alloc _ z => constsOk z
  | .makeMap | .panic => true
  | .build z l => partsOk l && constsOk z
  | .buildSlice _ _ z l _ => partsOk l && constsOk z
  | .makeSlice _ _ z x y | .appendZ _ _ z x y => opdOk x && opdOk y && constsOk z
  | .lookup _ z x y _ => opdOk x && opdOk y && constOk z
  | .store _ x y _ | .bin _ _ x y | .indexSl _ x y | .indexArrAddr _ _ x y | .indexStr x y | .indexArr _ _ _ x y | .append _ _ x y | .copy _ x y | .min2 x y | .max2 x y => opdOk x && opdOk y
  | .makeFunc (.func _) a b => opdsOk a && opdsOk b
  | .makeFunc _ _ _ => false
  | .sliceStr x a b => opdOk x && oopdOk a && oopdOk b
  | .sliceSl _ x a b c | .sliceArr _ _ x a b c => opdOk x && oopdOk a && oopdOk b && oopdOk c
  | .mapUpdate _ x y z => opdOk x && opdOk y && opdOk z
  | .call f l => opdOk f && opdsOk l

/-! ### Slots -/
/-- Each slot that is known holds what it should. -/
def TRel (ι : Inj) (T : Tmps) (tmps : Array Value) : Prop := ∀ i v, Tget T i = some v → ∃ v', tmps[i]? = some v' ∧ VRel ι v v'
def ERel (ι : Inj) (e : Env) (tmps : Array Value) : Prop := ∀ i v, e.look i = some v → ∃ v', tmps[i]? = some v' ∧ VRel ι v v'
theorem ERel.mono {ι ι' : Inj} (hx : Ext ι ι') {e : Env} {tmps : Array Value} (h : ERel ι e tmps) : ERel ι' e tmps :=
  fun i v hv => let ⟨v', a, b⟩ := h i v hv; ⟨v', a, b.mono hx⟩
theorem TRel.mono {ι ι' : Inj} (hx : Ext ι ι') {e : Tmps} {tmps : Array Value} (h : TRel ι e tmps) : TRel ι' e tmps :=
  fun i v hv => let ⟨v', a, b⟩ := h i v hv; ⟨v', a, b.mono hx⟩
theorem TRel.env {ι : Inj} {T : Tmps} {tmps : Array Value} (h : TRel ι T tmps) : ERel ι ⟨[], T⟩ tmps := fun i v hv => h i v (by simpa [Env.look, Tget] using hv)
section operands
variable {ι : Inj} {e : Env} {a : Act}
theorem ev_rel (hE : ERel ι e a.tmps) {x : Operand} (hx : opdOk x = true) {v : Value} (h : ev e x = some v) : VRel ι v (a.eval x) := by
  cases x with
  | tmp t =>
    obtain ⟨v', h1, h2⟩ := hE t v h
    simp only [Act.eval]
    rw [Array.getD_eq_getD_getElem?, h1]; exact h2
  | const c => simp only [ev, Option.some.injEq] at h; subst h; exact VRel.const ι c hx
  | global g => simp [ev] at h
  | func f => simp only [ev, Option.some.injEq] at h; subst h; exact .func .nil .nil
theorem evs_rel (hE : ERel ι e a.tmps) : ∀ {xs : List Operand}, opdsOk xs = true → ∀ {vs : List Value}, evs e xs = some vs → VRels ι vs (xs.map a.eval)
  | [], _, vs, h => by simp [evs] at h; subst h; exact .nil
  | x :: xs, hx, vs, h => by
    simp only [opdsOk, List.all_cons, Bool.and_eq_true] at hx
    simp only [evs] at h
    cases hv : ev e x with
    | none => simp [hv] at h
    | some v =>
      cases hvs : evs e xs with
      | none => simp [hv, hvs] at h
      | some vs' =>
        simp [hv, hvs] at h; subst h
        exact .cons (ev_rel hE hx.1 hv) (evs_rel hE hx.2 hvs)
inductive ORelV (ι : Inj) : Option Value → Option Value → Prop
  | none : ORelV ι none none
  | some {v v' : Value} (h : VRel ι v v') : ORelV ι (some v) (some v')
theorem evo_rel (hE : ERel ι e a.tmps) {x : Option Operand} (hx : oopdOk x = true) {v : Option Value} (h : evo e x = some v) : ORelV ι v (x.map a.eval) := by
  cases x with
  | none => simp [evo] at h; subst h; exact .none
  | some x =>
    simp only [evo] at h
    cases hv : ev e x with
    | none => simp [hv] at h
    | some v' => simp [hv] at h; subst h; exact .some (ev_rel hE hx hv)
end operands

/-! ### Codes -/
inductive OpersRel (P : Program) (all : List Oper) (N : Nat) (K : List Nat) : List Oper → List LOper → Prop
  | nil : OpersRel P all N K [] []
  | cons {o : Oper} {lo : LOper} {r : List Oper} {lr : List LOper} (m : Bool) (hop : compOp P m o = some lo.op) (hok : lopOk lo.op = true) (hd : lo.dst = o.dst)
      (hN : ∀ d, o.dst = some d → d < N) (hK : ∀ d, o.dst = some d → (lo.loc = false ↔ d ∈ K))
      (hg : match o.guard with | none => lo.guard = none | some (j, w) => ∃ d, (all[j]?).bind (·.dst) = some d ∧ lo.guard = some (d, w))
      (t : OpersRel P all N K r lr) : OpersRel P all N K (o :: r) (lo :: lr)
/-- No range over a function within. -/
def flat : LCode → Bool
  | .rangeFunc .. => false
  | .seq a b | .cond _ a b => flat a && flat b
  | .block _ b | .loop _ b => flat b
  | _ => true
inductive CR (P : Program) (N : Nat) (K : List Nat) : Code → LCode → Prop
  | skip : CR P N K .skip .skip
  | text {id : Nat} {ops : Array Oper} {l : List LOper} (h : OpersRel P ops.toList N K ops.toList l) : CR P N K (.region id ops false) (.region l [])
  | draw {id : Nat} {ops : Array Oper} {l : List LOper} (h : OpersRel P ops.toList N K ops.toList l) (hd : drawOk ops.toList (befs ops.toList) l = true) : CR P N K (.region id ops true) (.region l (pairsOf (befs ops.toList) l l 0))
  | seq {a b : Code} {la lb : LCode} (h1 : CR P N K a la) (h2 : CR P N K b lb) : CR P N K (.seq a b) (.seq la lb)
  | cond {c : Operand} {a b : Code} {la lb : LCode} (hc : opdOk c = true) (h1 : CR P N K a la) (h2 : CR P N K b lb) : CR P N K (.cond c a b) (.cond c la lb)
  | block {id : Nat} {a : Code} {la : LCode} (h : CR P N K a la) : CR P N K (.block id a) (.block id la)
  | loop {kill : List Nat} {a : Code} {la : LCode} (h : CR P N K a la) : CR P N K (.loop a) (.loop kill la)
  | rangeFunc {g : Operand} {ps : Array Nat} {a b : Code} {la lb : LCode} (hg : opdOk g = true) (hp : ∀ p ∈ ps, p < N ∧ p ∈ K) (h1 : CR P N K a la) (h2 : CR P N K b lb) (hfa : flat la = true) (hfb : flat lb = true) : CR P N K (.rangeFunc g ps a b) (.rangeFunc g ps.toList la lb)
  | exit (id : Nat) : CR P N K (.exit id) (.exit id)
  | ret : CR P N K .ret .ret
def keysIn (T : Tmps) (K : List Nat) : Prop := ∀ i v, Tget T i = some v → i ∈ K

/-! ### Objects, states -/
inductive MRel (ι : Inj) : List (Value × Value) → List MapEntry → Prop
  | nil : MRel ι [] []
  | cons {k v k' v' : Value} {b : Nat} {l : List (Value × Value)} {l' : List MapEntry} (h1 : VRel ι k k') (h2 : VRel ι v v') (t : MRel ι l l') : MRel ι ((k, v) :: l) (⟨k', v', b⟩ :: l')
def lstate : Nat → LoopState
  | 0 => .ready
  | 1 => .busy
  | _ => .done
inductive PendRel : Option LCode → Option Code → Prop
  | none : PendRel none none
  | ret : PendRel (some .ret) (some .ret)
  | exit (id : Nat) : PendRel (some (.exit id)) (some (.exit id))
def ObRel (P : Program) (ι : Inj) (m : Bool) (R : Real) (x : Option Obj) : LObj → Prop
  | .cells c => ∃ rc e fz, x = some (.cells rc e fz) ∧ rc.size = R.n ∧ CRels ι c ((rc.toList.drop R.d).take c.length) ∧ R.d + c.length ≤ R.n ∧ (m = true → fz = (0, 0))
  | .map es => ∃ es' cl, x = some (.map es' cl) ∧ MRel ι es es'.toList
  | .loop st T ps a b fn pend => ∃ L : Loop, ∃ K, x = some (.loop L) ∧ L.params.toList = ps ∧ TRel ι T L.tmps ∧ keysIn T K ∧ CR P L.tmps.size K L.assign a ∧ CR P L.tmps.size K L.body b ∧ (∀ p ∈ ps, p < L.tmps.size ∧ p ∈ K) ∧ L.state = lstate st ∧ PendRel pend L.pending ∧ flat a = true ∧ flat b = true
structure SRel (P : Program) (ι : Inj) (s : St) (w : World) : Prop where
  hm : ∀ b o R, s.hm.get b = some o → ι b = some R → ObRel P ι true R w.heap[R.r]? o
  hi : ∀ b o R, s.hi.get b = some o → ι b = some R → ObRel P ι false R w.heap[R.r]? o
  inj : ∀ b b' R R', s.hm.get b ≠ none → (s.hm.get b' ≠ none ∨ s.hi.get b' ≠ none) → ι b = some R → ι b' = some R' → R.r = R'.r → b = b'
  bnd : ∀ b R, ι b = some R → R.r < w.heap.size
  dis : ∀ b, s.hm.get b ≠ none → s.hi.get b = none
structure Fresh (ι : Inj) (s : St) (k' : Nat) : Prop where
  wf : ∀ b, s.k ≤ b → s.hm.get b = none ∧ s.hi.get b = none
  io : ∀ b, s.k ≤ b → b < k' → ι b = none
structure Post (fl : Nat) (ι : Inj) (s : St) (w : World) (ι' : Inj) (s' : St) (w' : World) : Prop where
  k : s.k ≤ s'.k
  old : ∀ b, (b < s.k ∨ s'.k ≤ b) → ι' b = ι b
  rng : ∀ b R, s.k ≤ b → b < s'.k → ι' b = some R → w.heap.size ≤ R.r ∨ ∃ b0 R0, ι b0 = some R0 ∧ R0.r = R.r ∧ fl ≤ b0 ∧ s.hm.get b0 ≠ none
  size : w.heap.size ≤ w'.heap.size
  frame : ∀ r, r < w.heap.size → (∀ b R, ι b = some R → R.r = r → b < fl ∨ s.hm.get b = none) → w'.heap[r]? = w.heap[r]?
  unreal : ∀ b, b < s.k → ι b = none → s'.hm.get b = s.hm.get b ∧ s'.hi.get b = s.hi.get b
  flr : ∀ b, b < fl → s'.hm.get b = s.hm.get b
  imm : ∀ b o, s.hi.get b = some o → s'.hi.get b = some o
  dead : ∀ b, b < s.k → s.hm.get b = none → s'.hm.get b = none
  wf : ∀ b, s'.k ≤ b → s'.hm.get b = none ∧ s'.hi.get b = none
  same : w'.os = w.os ∧ w'.tape = w.tape ∧ w'.output = w.output
variable {P : Program} {fl : Nat} {ι ι1 ι2 : Inj} {s s1 s2 : St} {w w1 w2 : World}
theorem Post.ext (h : Post fl ι s w ι1 s1 w1) (hf : Fresh ι s s1.k) : Ext ι ι1 := by
  intro b R hb
  by_cases hk : b < s.k ∨ s1.k ≤ b
  · rw [h.old b hk]; exact hb
  · have := hf.io b (by omega) (by omega); rw [hb] at this; cases this
theorem Fresh.left (h : Fresh ι s s2.k) (hk : s1.k ≤ s2.k) : Fresh ι s s1.k := ⟨h.wf, fun b h1 h2 => h.io b h1 (by omega)⟩
theorem Fresh.right (h : Fresh ι s s2.k) (hp : Post fl ι s w ι1 s1 w1) : Fresh ι1 s1 s2.k :=
  ⟨hp.wf, fun b h1 h2 => by rw [hp.old b (.inr h1)]; exact h.io b (by have := hp.k; omega) h2⟩
theorem Post.refl (hf : Fresh ι s s.k) : Post fl ι s w ι s w :=
  ⟨Nat.le_refl _, fun _ _ => rfl, fun b R h1 h2 => by omega, Nat.le_refl _, fun _ _ _ => rfl, fun _ _ _ => ⟨rfl, rfl⟩, fun _ _ => rfl, fun _ _ h => h, fun _ _ h => h, hf.wf, rfl, rfl, rfl⟩
theorem Post.trans (h : Post fl ι s w ι1 s1 w1) (g : Post fl ι1 s1 w1 ι2 s2 w2) : Post fl ι s w ι2 s2 w2 where
  k := Nat.le_trans h.k g.k
  old b hb := by
    have h1 := h.k; have h2 := g.k
    rw [g.old b (by omega), h.old b (by omega)]
  rng b R h1 h2 hb := by
    have hk := h.k; have gk := g.k
    by_cases hlt : b < s1.k
    · rw [g.old b (.inl hlt)] at hb; exact h.rng b R h1 hlt hb
    · rcases g.rng b R (by omega) h2 hb with hw | ⟨b0, R0, hb0, hr, hfl, hne⟩
      · left; have := h.size; omega
      · by_cases h0 : b0 < s.k ∨ s1.k ≤ b0
        · right
          rw [h.old b0 h0] at hb0
          refine ⟨b0, R0, hb0, hr, hfl, fun hn => hne ?_⟩
          rcases h0 with h0 | h0
          · exact h.dead b0 h0 hn
          · exact (h.wf b0 h0).1
        · rcases h.rng b0 R0 (by omega) (by omega) hb0 with hw | ⟨b1, R1, hb1, hr1, hfl1, hne1⟩
          · left; omega
          · right; exact ⟨b1, R1, hb1, by rw [hr1, hr], hfl1, hne1⟩
  size := Nat.le_trans h.size g.size
  frame r hr H := by
    rw [g.frame r (Nat.lt_of_lt_of_le hr h.size), h.frame r hr H]
    intro b R hb hR
    by_cases h0 : b < s.k ∨ s1.k ≤ b
    · rw [h.old b h0] at hb
      rcases H b R hb hR with hf | hn
      · exact .inl hf
      · rcases h0 with h0 | h0
        · exact .inr (h.dead b h0 hn)
        · exact .inr (h.wf b h0).1
    · rcases h.rng b R (by omega) (by omega) hb with hw | ⟨b0, R0, hb0, hr0, hfl0, hne0⟩
      · omega
      · rcases H b0 R0 hb0 (by omega) with hf | hn
        · omega
        · exact absurd hn hne0
  unreal b hb hi := by
    have h1 := h.unreal b hb hi
    have h2 := g.unreal b (Nat.lt_of_lt_of_le hb h.k) (by rw [h.old b (.inl hb)]; exact hi)
    exact ⟨h2.1.trans h1.1, h2.2.trans h1.2⟩
  flr b hb := (g.flr b hb).trans (h.flr b hb)
  imm b o ho := g.imm b o (h.imm b o ho)
  dead b hb hn := g.dead b (Nat.lt_of_lt_of_le hb h.k) (h.dead b hb hn)
  wf := g.wf
  same := ⟨g.same.1.trans h.same.1, g.same.2.1.trans h.same.2.1, g.same.2.2.trans h.same.2.2⟩
theorem Post.mono {fl' : Nat} (h : Post fl' ι s w ι1 s1 w1) (hf : fl ≤ fl') : Post fl ι s w ι1 s1 w1 :=
  ⟨h.k, h.old, fun b R h1 h2 hb => (h.rng b R h1 h2 hb).imp id fun ⟨b0, R0, a, b, c, d⟩ => ⟨b0, R0, a, b, Nat.le_trans hf c, d⟩, h.size,
    fun r hr H => h.frame r hr fun b R hb hR => (H b R hb hR).imp (fun x => by omega) id, h.unreal, fun b hb => h.flr b (by omega), h.imm, h.dead, h.wf, h.same⟩
end Go.Ev
/- Reading, writing and making cells: logical and real. -/
namespace Go.Ev
open Go (World)
variable {P : Program}

theorem add_none (b o i : Nat) : (⟨b, o, none⟩ : Addr).add i = ⟨b, o + i, none⟩ := by
  unfold Addr.add; split
  · rename_i h; subst h; rfl
  · rfl
theorem run_load {w : World} {a : Addr} {v : Value} (h : w.cell? a = some v) : (load a).run P w = .ok v w := by
  simp [load, Sem.run, h]
theorem run_loadCellsFrom (w : World) (b o : Nat) : ∀ (cs : List Value) (i : Nat) (acc : Array Value), (∀ j v, cs[j]? = some v → w.cell? ⟨b, o + i + j, none⟩ = some v) →
    (loadCellsFrom ⟨b, o, none⟩ i cs.length acc).run P w = .ok (acc ++ cs.toArray) w
  | [], i, acc, _ => by simp [loadCellsFrom]
  | v :: cs, i, acc, h => by
    have h0 := h 0 v rfl
    simp only [List.length_cons, loadCellsFrom, Sem.run_bind, add_none]
    rw [run_load (by simpa using h0)]
    simp only [Result.andThen_ok]
    rw [run_loadCellsFrom w b o cs (i + 1) (acc.push v) (fun j x hx => by
      have := h (j + 1) x (by simpa using hx)
      rw [show o + (i + 1) + j = o + i + (j + 1) by omega]; exact this)]
    simp
theorem run_loadCells {w : World} {b o n : Nat} {cs : List Value} (hn : cs.length = n) (h : ∀ j v, cs[j]? = some v → w.cell? ⟨b, o + j, none⟩ = some v) :
    (loadCells ⟨b, o, none⟩ n).run P w = .ok cs.toArray w := by
  subst hn
  have := run_loadCellsFrom (P := P) w b o cs 0 #[] (by simpa using h)
  simpa [loadCells] using this
theorem cell_of {w : World} {r o : Nat} {rc : Array Value} {e : TypeId} {fz : Nat × Nat} (h : w.heap[r]? = some (.cells rc e fz)) : w.cell? ⟨r, o, none⟩ = rc[o]? := by
  simp [World.cell?, h]

/-- Cells laid into a row. -/
def splice (c : List Value) (o : Nat) (vs : List Value) : List Value := c.take o ++ vs ++ c.drop (o + vs.length)
theorem splice_length {c : List Value} {o : Nat} {vs : List Value} (h : o + vs.length ≤ c.length) : (splice c o vs).length = c.length := by
  simp [splice]; omega
theorem splice_nil (c : List Value) (o : Nat) : splice c o [] = c := by simp [splice]
theorem splice_cons (c : List Value) (o : Nat) (v : Value) (vs : List Value) (h : o + (v :: vs).length ≤ c.length) : splice (c.set o v) (o + 1) vs = splice c o (v :: vs) := by
  simp only [List.length_cons] at h
  unfold splice
  rw [List.take_set, List.drop_set]
  have h1 : ¬ (o < o + 1 + vs.length) → False := by omega
  rw [if_pos (by omega)]
  have h2 : (List.take (o + 1) c).set o v = c.take o ++ [v] := by
    rw [List.take_succ_eq_append_getElem (by omega), List.set_append_right _ _ (by simp; omega)]
    simp [show o - min o c.length = 0 by omega]
  rw [h2]
  simp only [List.append_assoc, List.cons_append, List.nil_append, List.length_cons]
  rw [show o + 1 + vs.length = o + (vs.length + 1) by omega]

theorem run_store {w : World} {r o : Nat} {rc : Array Value} {e : TypeId} {v : Value} (h : w.heap[r]? = some (.cells rc e (0, 0))) (ho : o < rc.size) (hv : scalar v = true) :
    (store ⟨r, o, none⟩ v).run P w = .ok () (w.putObj r (.cells (rc.set o v ho) e (0, 0))) := by
  have hc : w.cell? ⟨r, o, none⟩ = some rc[o] := by rw [cell_of h]; simp [ho]
  have hf : w.frozen? ⟨r, o, none⟩ = false := by simp [World.frozen?, h]
  have hw : w.setCell ⟨r, o, none⟩ v = w.putObj r (.cells (rc.set o v ho) e (0, 0)) := by
    obtain ⟨hr, hb⟩ := Array.getElem?_eq_some_iff.1 h
    simp only [World.setCell, World.putObj]
    congr 1
    apply Array.ext_getElem?
    intro i
    rw [Array.getElem?_modify]
    split
    · rename_i hi; subst hi; simp [hr, h, Array.setIfInBounds, ho, hb]
    · rename_i hi; simp [Array.getElem?_setIfInBounds, hi]
  cases v <;> first
    | (simp [scalar] at hv; done)
    | simp [store, Sem.run, hc, hf, hw]
theorem putObj_putObj (w : World) (r : Nat) (o o' : Obj) : (w.putObj r o).putObj r o' = w.putObj r o' := by simp [World.putObj]
theorem putObj_heap (w : World) (r : Nat) (o : Obj) (h : r < w.heap.size) : (w.putObj r o).heap[r]? = some o := by simp [World.putObj, h]
theorem putObj_self {w : World} {r : Nat} {o : Obj} (h : w.heap[r]? = some o) : w.putObj r o = w := by
  obtain ⟨hr, hb⟩ := Array.getElem?_eq_some_iff.1 h
  simp only [World.putObj]
  have : w.heap.setIfInBounds r o = w.heap := by
    apply Array.ext_getElem?
    intro i
    rw [Array.getElem?_setIfInBounds]
    split
    · rename_i hi; subst hi; simp [hr, ← hb]
    · rfl
  rw [this]
theorem putObj_size (w : World) (r : Nat) (o : Obj) : (w.putObj r o).heap.size = w.heap.size := by simp [World.putObj]
theorem putObj_other (w : World) {r k : Nat} (o : Obj) (h : k ≠ r) : (w.putObj r o).heap[k]? = w.heap[k]? := by
  simp only [World.putObj, Array.getElem?_setIfInBounds]
  rw [if_neg (fun e => h e.symm)]
theorem run_storeCells (e : TypeId) (r o : Nat) : ∀ (vs : List Value) (i : Nat) (w : World) (rc : Array Value), w.heap[r]? = some (.cells rc e (0, 0)) → o + i + vs.length ≤ rc.size → vs.all scalar = true →
    (storeCells ⟨r, o, none⟩ vs i).run P w = .ok () (w.putObj r (.cells ⟨splice rc.toList (o + i) vs⟩ e (0, 0)))
  | [], i, w, rc, h, _, _ => by
    simp only [storeCells, splice_nil]
    rw [show (⟨rc.toList⟩ : Array Value) = rc from rfl, putObj_self h]
    simp
  | v :: vs, i, w, rc, h, hl, hs => by
    simp only [List.length_cons] at hl
    simp only [List.all_cons, Bool.and_eq_true] at hs
    obtain ⟨hr, _⟩ := Array.getElem?_eq_some_iff.1 h
    simp only [storeCells, Sem.run_bind, add_none]
    rw [run_store h (by omega) hs.1]
    simp only [Result.andThen_ok]
    rw [run_storeCells e r o vs (i + 1) _ (rc.set (o + i) v (by omega)) (putObj_heap _ _ _ hr) (by simp; omega) hs.2, putObj_putObj]
    congr 3
    have := splice_cons rc.toList (o + i) v vs (by simp; omega)
    simp only [Array.toList_set]
    rw [← this, show o + (i + 1) = o + i + 1 by omega]

section rel
variable {ι : Inj} {s : St} {w : World}
theorem VRels.splice {c c' vs vs' : List Value} {o : Nat} (hc : VRels ι c c') (hv : VRels ι vs vs') : VRels ι (splice c o vs) (splice c' o vs') := by
  unfold Ev.splice; rw [hv.length]; exact ((hc.take o).append hv).append (hc.drop _)

theorem CRels.splice {c c' vs vs' : List Value} {o : Nat} (hc : CRels ι c c') (hv : VRels ι vs vs') : CRels ι (splice c o vs) (splice c' o vs') := by
  unfold Ev.splice; rw [hv.length]; exact ((hc.take o).append hv.c).append (hc.drop _)

theorem MRel.mono {ι ι' : Inj} (hx : Ext ι ι') : ∀ {l : List (Value × Value)} {l' : List MapEntry}, MRel ι l l' → MRel ι' l l'
  | _, _, .nil => .nil
  | _, _, .cons a b t => .cons (a.mono hx) (b.mono hx) (t.mono hx)
theorem ObRel.mono {P : Program} {ι ι' : Inj} (hx : Ext ι ι') {m : Bool} {R : Real} {x : Option Obj} {o : LObj} (h : ObRel P ι m R x o) : ObRel P ι' m R x o := by
  cases o with
  | cells c => obtain ⟨rc, e, fz, h1, h2, h4, h5, h6⟩ := h; exact ⟨rc, e, fz, h1, h2, h4.mono hx, h5, h6⟩
  | map es => obtain ⟨es', cl, h1, h2⟩ := h; exact ⟨es', cl, h1, h2.mono hx⟩
  | loop st T ps a b fn pend => obtain ⟨L, K, h1, h2, h3, h4⟩ := h; exact ⟨L, K, h1, h2, h3.mono hx, h4⟩
theorem ObRel.imm {P : Program} {ι : Inj} {R : Real} {x : Option Obj} {o : LObj} (h : ObRel P ι true R x o) : ObRel P ι false R x o := by
  cases o with
  | cells c => obtain ⟨rc, e, fz, h1, h2, h4, h5, h6⟩ := h; exact ⟨rc, e, fz, h1, h2, h4, h5, fun h => by cases h⟩
  | map es => exact h
  | loop st T ps a b fn pend => exact h
/-- What a live block of cells is in memory. -/
theorem live_cells (hS : SRel P ι s w) {b : Nat} {c : List Value} (h : s.get b = some (.cells c)) {R : Real} (hR : ι b = some R) :
    ∃ rc e fz, w.heap[R.r]? = some (.cells rc e fz) ∧ rc.size = R.n ∧ CRels ι c ((rc.toList.drop R.d).take c.length) ∧ R.d + c.length ≤ R.n := by
  unfold St.get at h
  cases hm : s.hm.get b with
  | some o =>
    simp only [hm, Option.some.injEq] at h; subst h
    obtain ⟨rc, e, fz, h1, h2, h4, h5, _⟩ := hS.hm b _ R hm hR
    exact ⟨rc, e, fz, h1, h2, h4, h5⟩
  | none =>
    simp only [hm] at h
    obtain ⟨rc, e, fz, h1, h2, h4, h5, _⟩ := hS.hi b _ R h hR
    exact ⟨rc, e, fz, h1, h2, h4, h5⟩
/-- A read. -/
theorem ld_rel (hS : SRel P ι s w) {b o n : Nat} {c : List Value} (h : s.ld b o n = some c) {R : Real} (hR : ι b = some R) :
    ∃ c', VRels ι c c' ∧ c'.length = n ∧ c.length = n ∧ ∀ j v, c'[j]? = some v → w.cell? ⟨R.r, o + R.d + j, none⟩ = some v := by
  unfold St.ld at h
  cases hg : s.get b with
  | none => simp [hg] at h
  | some x =>
    cases x with
    | map es => simp [hg] at h
    | loop => simp [hg] at h
    | cells c0 =>
      simp only [hg] at h
      split at h
      · rename_i hle
        obtain ⟨hle, hnj⟩ := hle
        simp only [Option.some.injEq] at h
        obtain ⟨rc, e, fz, h1, h2, h4, h5⟩ := live_cells hS hg hR
        refine ⟨((rc.toList.drop (o + R.d)).take n), ?_, ?_, ?_, ?_⟩
        · have hh := ((h4.drop o).take n).v hnj
          rw [h] at hh
          have e : (List.drop o ((rc.toList.drop R.d).take c0.length)).take n = (rc.toList.drop (o + R.d)).take n := by
            rw [List.drop_take, List.take_take, List.drop_drop]
            rw [show min n (c0.length - o) = n by omega, show R.d + o = o + R.d by omega]
          rw [e] at hh; exact hh
        · simp; omega
        · subst h; simp; omega
        · intro j v hj
          rw [cell_of h1]
          have hlt : j < n := by
            by_cases hx : j < n
            · exact hx
            · rw [List.getElem?_eq_none (by simp; omega)] at hj; cases hj
          rw [List.getElem?_take, if_pos hlt, List.getElem?_drop] at hj
          simpa using hj
      · cases h
/-- The state with an object made anew. -/
theorem new_rel (imm : Bool) (o : LObj) (ob : Obj) (R : Real) (hS : SRel P ι s w) (hF : Fresh ι s (s.k + 1)) (hr : R.r = w.heap.size)
    (ho : ∀ ι', Ext ι ι' → ObRel P ι' (!imm) R (some ob) o) (fl : Nat) (hfl : fl ≤ s.k) :
    let ι' : Inj := fun b => if b = s.k then some R else ι b
    let w' : World := { w with heap := w.heap.push ob }
    Post fl ι s w ι' (s.add imm o) w' ∧ SRel P ι' (s.add imm o) w' := by
  intro ι' w'
  have hk : (s.add imm o).k = s.k + 1 := by unfold St.add; split <;> rfl
  have hx : Ext ι ι' := by
    intro b R' hb
    have : b ≠ s.k := fun e => by have := hF.io b (by omega) (by omega); rw [hb] at this; cases this
    simp [ι', this, hb]
  have hold : ∀ r, r < w.heap.size → w'.heap[r]? = w.heap[r]? := by
    intro r hr'; simp only [w', Array.getElem?_push]; rw [if_neg (by omega)]
  have hnew : w'.heap[R.r]? = some ob := by simp [w', hr]
  have hgm : ∀ b, (s.add imm o).hm.get b = if b = s.k ∧ imm = false then some o else s.hm.get b := by
    intro b; unfold St.add; cases imm <;> simp [St.new, St.newI, Trie.get_set]
  have hgi : ∀ b, (s.add imm o).hi.get b = if b = s.k ∧ imm = true then some o else s.hi.get b := by
    intro b; unfold St.add; cases imm <;> simp [St.new, St.newI, Trie.get_set]
  have hwf := hF.wf s.k (Nat.le_refl _)
  refine ⟨⟨by omega, ?_, ?_, by simp [w'], fun r hr' _ => hold r hr', ?_, ?_, ?_, ?_, ?_, rfl, rfl, rfl⟩, ⟨?_, ?_, ?_, ?_, ?_⟩⟩
  · intro b hb; have : b ≠ s.k := by omega
    simp [ι', this]
  · intro b R' h1 h2 hb
    have : b = s.k := by omega
    subst this; simp [ι'] at hb; subst hb; left; omega
  · intro b hb _
    rw [hgm, hgi, if_neg (by omega), if_neg (by omega)]; exact ⟨rfl, rfl⟩
  · intro b hb; rw [hgm, if_neg (by omega)]
  · intro b x hb; rw [hgi]; split
    · rename_i e; rw [e.1, hwf.2] at hb; cases hb
    · exact hb
  · intro b hb hn; rw [hgm, if_neg (by omega)]; exact hn
  · intro b hb; rw [hgm, hgi, if_neg (by omega), if_neg (by omega)]; exact hF.wf b (by omega)
  · intro b x R' hb hR'
    rw [hgm] at hb
    split at hb
    · rename_i e
      obtain ⟨rfl, rfl⟩ := e
      simp only [Option.some.injEq] at hb; subst hb
      simp [ι'] at hR'; subst hR'
      rw [hnew]; exact ho ι' hx
    · have hne : b ≠ s.k := fun e => by subst e; rw [hwf.1] at hb; cases hb
      have hR : ι b = some R' := by simpa [ι', hne] using hR'
      rw [hold R'.r (hS.bnd b R' hR)]
      exact (hS.hm b x R' hb hR).mono hx
  · intro b x R' hb hR'
    rw [hgi] at hb
    split at hb
    · rename_i e
      obtain ⟨rfl, rfl⟩ := e
      simp only [Option.some.injEq] at hb; subst hb
      simp [ι'] at hR'; subst hR'
      rw [hnew]; exact ho ι' hx
    · have hne : b ≠ s.k := fun e => by subst e; rw [hwf.2] at hb; cases hb
      have hR : ι b = some R' := by simpa [ι', hne] using hR'
      rw [hold R'.r (hS.bnd b R' hR)]
      exact (hS.hi b x R' hb hR).mono hx
  · intro b b' Rb Rb' h1 h2 hb hb' he
    by_cases e1 : b = s.k
    · subst e1
      by_cases e2 : b' = s.k
      · exact e2.symm
      · simp [ι'] at hb; subst hb
        have := hS.bnd b' Rb' (by simpa [ι', e2] using hb')
        omega
    · by_cases e2 : b' = s.k
      · subst e2; simp [ι'] at hb'; subst hb'
        have := hS.bnd b Rb (by simpa [ι', e1] using hb)
        omega
      · refine hS.inj b b' Rb Rb' ?_ ?_ (by simpa [ι', e1] using hb) (by simpa [ι', e2] using hb') he
        · rw [hgm, if_neg (fun x => e1 x.1)] at h1; exact h1
        · rw [hgm, hgi, if_neg (fun x => e2 x.1), if_neg (fun x => e2 x.1)] at h2; exact h2
  · intro b R' hb
    by_cases e1 : b = s.k
    · subst e1; simp [ι'] at hb; subst hb; simp [w']; omega
    · have := hS.bnd b R' (by simpa [ι', e1] using hb)
      simp [w']; omega
  · intro b hb
    rw [hgm] at hb; rw [hgi]
    by_cases e1 : b = s.k
    · subst e1
      cases imm
      · simp; exact hwf.2
      · simp [hwf.1] at hb
    · rw [if_neg (fun x => e1 x.1)] at hb; rw [if_neg (fun x => e1 x.1)]; exact hS.dis b hb
end rel
end Go.Ev
/- Changing what is there: logical and real. -/
namespace Go.Ev
variable {P : Program} {ι : Inj} {s : St} {w : World} {fl : Nat}

theorem lt_of_live (hF : Fresh ι s s.k) {b : Nat} {o : LObj} (h : s.hm.get b = some o) : b < s.k := by
  by_cases e : b < s.k
  · exact e
  · have := (hF.wf b (by omega)).1; rw [h] at this; cases this
/-- A live block that may change gets another object; or none. -/
theorem upd_rel (hS : SRel P ι s w) (hF : Fresh ι s s.k) {b : Nat} {o : LObj} {R : Real} (hb : s.hm.get b = some o) (hfl : fl ≤ b) (hR : ι b = some R)
    (o' : Option LObj) (ob' : Obj) (ho : ∀ x, o' = some x → ObRel P ι true R (some ob') x) :
    Post fl ι s w ι { s with hm := s.hm.set b o' } (w.putObj R.r ob') ∧ SRel P ι { s with hm := s.hm.set b o' } (w.putObj R.r ob') := by
  have hlt := lt_of_live hF hb
  have hRr := hS.bnd b R hR
  refine ⟨⟨Nat.le_refl _, fun _ _ => rfl, fun b' R' h1 h2 => by simp at h1 h2; omega, by rw [putObj_size]; exact Nat.le_refl _, ?_, ?_, ?_, fun _ _ h => h, ?_, ?_, rfl, rfl, rfl⟩, ⟨?_, ?_, ?_, ?_, ?_⟩⟩
  · intro r hr H
    refine putObj_other _ _ (fun e => ?_)
    subst e
    rcases H b R hR rfl with h | h
    · omega
    · rw [hb] at h; cases h
  · intro b' _ hi
    have : b' ≠ b := fun e => by subst e; rw [hR] at hi; cases hi
    exact ⟨Trie.get_set_ne _ _ this, rfl⟩
  · intro b' h
    exact Trie.get_set_ne _ _ (by omega)
  · intro b' _ hn
    have : b' ≠ b := fun e => by subst e; rw [hb] at hn; cases hn
    show (s.hm.set b o').get b' = none
    rw [Trie.get_set_ne _ _ this]; exact hn
  · intro b' h
    have h : s.k ≤ b' := h
    refine ⟨?_, (hF.wf b' h).2⟩
    show (s.hm.set b o').get b' = none
    rw [Trie.get_set_ne _ _ (by omega)]; exact (hF.wf b' h).1
  · intro b' x R' hx hR'
    have hx : (s.hm.set b o').get b' = some x := hx
    by_cases e : b' = b
    · subst e
      rw [hR] at hR'; injection hR' with hR'; subst hR'
      rw [Trie.get_set_same] at hx
      rw [putObj_heap _ _ _ hRr]
      exact ho x hx
    · rw [Trie.get_set_ne _ _ e] at hx
      rw [putObj_other _ _ (fun e2 => e ?_)]
      · exact hS.hm b' x R' hx hR'
      · exact (hS.inj b b' R R' (by rw [hb]; simp) (.inl (by rw [hx]; simp)) hR hR' e2.symm).symm
  · intro b' x R' hx hR'
    have hne : b' ≠ b := fun e => by subst e; have := hS.dis b' (by rw [hb]; simp); rw [this] at hx; cases hx
    rw [putObj_other _ _ (fun e2 => hne ?_)]
    · exact hS.hi b' x R' hx hR'
    · exact (hS.inj b b' R R' (by rw [hb]; simp) (.inr (by rw [hx]; simp)) hR hR' e2.symm).symm
  · intro b1 b2 R1 R2 h1 h2 hb1 hb2 he
    refine hS.inj b1 b2 R1 R2 ?_ ?_ hb1 hb2 he
    · by_cases e : b1 = b
      · subst e; rw [hb]; simp
      · have h1 : (s.hm.set b o').get b1 ≠ none := h1
        rw [Trie.get_set_ne _ _ e] at h1; exact h1
    · by_cases e : b2 = b
      · subst e; left; rw [hb]; simp
      · have h2 : (s.hm.set b o').get b2 ≠ none ∨ s.hi.get b2 ≠ none := h2
        rw [Trie.get_set_ne _ _ e] at h2; exact h2
  · intro b' R' h; rw [putObj_size]; exact hS.bnd b' R' h
  · intro b' h
    have h : (s.hm.set b o').get b' ≠ none := h
    by_cases e : b' = b
    · subst e; exact hS.dis b' (by rw [hb]; simp)
    · rw [Trie.get_set_ne _ _ e] at h; exact hS.dis b' h
/-- What is live may be forgotten. -/
theorem del_rel (hS : SRel P ι s w) (hF : Fresh ι s s.k) {b : Nat} {o : LObj} {R : Real} (hb : s.hm.get b = some o) (hfl : fl ≤ b) (hR : ι b = some R) :
    Post fl ι s w ι (s.del b) w ∧ SRel P ι (s.del b) w := by
  have hRr := hS.bnd b R hR
  obtain ⟨ob, hob⟩ : ∃ ob, w.heap[R.r]? = some ob := ⟨w.heap[R.r], by simp [hRr]⟩
  have := upd_rel hS hF hb hfl hR none ob (fun x h => by cases h)
  rw [putObj_self hob] at this
  exact this
/-- What was written stays as it is from now on. -/
theorem fz_rel (hS : SRel P ι s w) (hF : Fresh ι s s.k) {b : Nat} (hfl : fl ≤ b) (hR : ι b ≠ none) :
    Post fl ι s w ι (s.fz b) w ∧ SRel P ι (s.fz b) w := by
  unfold St.fz
  cases hb : s.hm.get b with
  | none => exact ⟨Post.refl hF, hS⟩
  | some o =>
    have hlt := lt_of_live hF hb
    have hdis := hS.dis b (by rw [hb]; simp)
    simp only
    refine ⟨⟨Nat.le_refl _, fun _ _ => rfl, fun b' R' h1 h2 => by simp at h1 h2; omega, Nat.le_refl _, fun _ _ _ => rfl, ?_, ?_, ?_, ?_, ?_, rfl, rfl, rfl⟩, ⟨?_, ?_, ?_, hS.bnd, ?_⟩⟩
    · intro b' _ hi
      have : b' ≠ b := fun e => by subst e; exact hR hi
      exact ⟨Trie.get_set_ne _ _ this, Trie.get_set_ne _ _ this⟩
    · intro b' h; exact Trie.get_set_ne _ _ (by omega)
    · intro b' x h
      have : b' ≠ b := fun e => by subst e; rw [hdis] at h; cases h
      show (s.hi.set b (some o)).get b' = some x
      rw [Trie.get_set_ne _ _ this]; exact h
    · intro b' _ hn
      have : b' ≠ b := fun e => by subst e; rw [hb] at hn; cases hn
      show (s.hm.set b none).get b' = none
      rw [Trie.get_set_ne _ _ this]; exact hn
    · intro b' h
      have h : s.k ≤ b' := h
      show (s.hm.set b none).get b' = none ∧ (s.hi.set b (some o)).get b' = none
      rw [Trie.get_set_ne _ _ (by omega), Trie.get_set_ne _ _ (by omega)]; exact hF.wf b' h
    · intro b' x R' hx hR'
      have hx : (s.hm.set b none).get b' = some x := hx
      rw [Trie.get_set] at hx
      split at hx
      · cases hx
      · exact hS.hm b' x R' hx hR'
    · intro b' x R' hx hR'
      have hx : (s.hi.set b (some o)).get b' = some x := hx
      rw [Trie.get_set] at hx
      split at hx
      · rename_i e
        have hx : o = x := by simpa using hx
        rw [e] at hR'; rw [← hx]; exact (hS.hm b o R' hb hR').imm
      · exact hS.hi b' x R' hx hR'
    · intro b1 b2 R1 R2 h1 h2 hb1 hb2 he
      have h1 : (s.hm.set b none).get b1 ≠ none := h1
      have h2 : (s.hm.set b none).get b2 ≠ none ∨ (s.hi.set b (some o)).get b2 ≠ none := h2
      rw [Trie.get_set] at h1
      split at h1
      · exact absurd rfl h1
      · refine hS.inj b1 b2 R1 R2 h1 ?_ hb1 hb2 he
        rw [Trie.get_set, Trie.get_set] at h2
        split at h2
        · rename_i e; subst e; left; rw [hb]; simp
        · exact h2
    · intro b' h
      have h : (s.hm.set b none).get b' ≠ none := h
      show (s.hi.set b (some o)).get b' = none
      rw [Trie.get_set] at h
      split at h
      · exact absurd rfl h
      · rename_i e; rw [Trie.get_set_ne _ _ e]; exact hS.dis b' h
/-- A write of cells. -/
theorem st_rel (hS : SRel P ι s w) (hF : Fresh ι s s.k) {b o : Nat} {vs vs' : List Value} {s' : St} (h : s.st fl b o vs = some s') {R : Real} (hR : ι b = some R) (hv : VRels ι vs vs')
    (hsc : vs.all scalar = true → vs'.all scalar = true) :
    s'.k = s.k ∧ ∃ w', (storeCells ⟨R.r, o + R.d, none⟩ vs').run P w = .ok () w' ∧ Post fl ι s w ι s' w' ∧ SRel P ι s' w' := by
  unfold St.st at h
  cases hb : s.hm.get b with
  | none => simp [hb] at h
  | some x =>
    cases x with
    | map es => simp [hb] at h
    | loop => simp [hb] at h
    | cells c =>
      simp only [hb] at h
      split at h
      · rename_i hc
        obtain ⟨hfl, hle, hs⟩ := hc
        simp only [Option.some.injEq] at h
        obtain ⟨rc, e, fz, h1, h2, h4, h5, h6⟩ := hS.hm b _ R hb hR
        have hz := h6 rfl; subst hz
        have hlv := hv.length
        have hrun := run_storeCells (P := P) e R.r (o + R.d) vs' 0 w rc h1 (by omega) (hsc hs)
        have hsp : (rc.toList.drop R.d).take c.length = (rc.toList.drop R.d).take c.length := rfl
        refine ⟨by subst h; rfl, _, hrun, ?_⟩
        have := upd_rel hS hF hb hfl hR (some (.cells (splice c o vs))) (.cells ⟨splice rc.toList (o + R.d + 0) vs'⟩ e (0, 0)) (by
          intro y hy; injection hy with hy; subst hy
          have hl : (splice c o vs).length = c.length := splice_length (by omega)
          refine ⟨_, e, (0, 0), rfl, ?_, ?_, by rw [hl]; exact h5, fun _ => rfl⟩
          · show (splice rc.toList (o + R.d + 0) vs').length = R.n
            rw [splice_length (by simp; omega)]; simp [h2]
          · rw [hl]
            show CRels ι (splice c o vs) (((splice rc.toList (o + R.d + 0) vs').drop R.d).take c.length)
            have hk := CRels.splice (o := o) h4 hv
            have hrl : rc.toList.length = R.n := by simp [h2]
            have : ((splice rc.toList (o + R.d + 0) vs').drop R.d).take c.length = splice ((rc.toList.drop R.d).take c.length) o vs' := by
              apply List.ext_getElem?
              intro i
              unfold splice
              simp only [List.getElem?_take, List.getElem?_drop, List.getElem?_append, List.length_take, List.length_append, List.length_drop]
              simp only [hrl]
              rw [hlv] at hle
              (repeat' split) <;> first | omega | rfl | (congr 1; omega) | skip
            rw [this]; exact hk)
        subst h
        exact this
      · cases h
/-- A live block goes on under another number: the same real block, or a part of it. -/
theorem remap_rel (hS : SRel P ι s w) (hF : Fresh ι s (s.k + 1)) {b : Nat} {o : LObj} {R R' : Real} (hb : s.hm.get b = some o) (hfl : fl ≤ b) (hfk : fl ≤ s.k) (hR : ι b = some R) (hr : R'.r = R.r)
    (o' : LObj) (ob' : Obj) (ho : ∀ ι', Ext ι ι' → ObRel P ι' true R' (some ob') o') :
    let ι' : Inj := fun x => if x = s.k then some R' else ι x
    Post fl ι s w ι' ((s.del b).new o') (w.putObj R.r ob') ∧ SRel P ι' ((s.del b).new o') (w.putObj R.r ob') := by
  intro ι'
  have hF0 : Fresh ι s s.k := hF.left (s1 := s) (s2 := ⟨s.hm, s.hi, s.k + 1⟩) (by simp)
  have hlt := lt_of_live hF0 hb
  have hRr := hS.bnd b R hR
  have hwf := hF.wf s.k (Nat.le_refl _)
  have hx : Ext ι ι' := by
    intro x R1 hx
    have : x ≠ s.k := fun e => by have := hF.io x (by omega) (by omega); rw [hx] at this; cases this
    simp [ι', this, hx]
  have hgm : ∀ x, ((s.del b).new o').hm.get x = if x = s.k then some o' else if x = b then none else s.hm.get x := by
    intro x; simp [St.new, St.del, Trie.get_set]
  have hgi : ∀ x, ((s.del b).new o').hi.get x = s.hi.get x := fun _ => rfl
  have hother : ∀ x R1, x ≠ b → (s.hm.get x ≠ none ∨ s.hi.get x ≠ none) → ι x = some R1 → R1.r ≠ R.r := fun x R1 hne hl h1 e =>
    hne (hS.inj b x R R1 (by rw [hb]; simp) hl hR h1 e.symm).symm
  refine ⟨⟨by simp [St.new, St.del], ?_, ?_, by rw [putObj_size]; exact Nat.le_refl _, ?_, ?_, ?_, ?_, ?_, ?_, rfl, rfl, rfl⟩, ⟨?_, ?_, ?_, ?_, ?_⟩⟩
  · intro x hx'; have : x ≠ s.k := by simp [St.new, St.del] at hx'; omega
    simp [ι', this]
  · intro x R1 h1 h2 h3
    simp [St.new, St.del] at h2
    have : x = s.k := by omega
    subst this; simp [ι'] at h3; subst h3
    right; exact ⟨b, R, hR, hr.symm, hfl, by rw [hb]; simp⟩
  · intro r hr' H
    refine putObj_other _ _ (fun e => ?_)
    subst e
    rcases H b R hR rfl with h | h
    · omega
    · rw [hb] at h; cases h
  · intro x h1 hi
    rw [hgm, hgi, if_neg (by omega), if_neg (fun e => by subst e; rw [hR] at hi; cases hi)]
    exact ⟨rfl, rfl⟩
  · intro x h; rw [hgm, if_neg (by omega), if_neg (by omega)]
  · intro x y h; rw [hgi]; exact h
  · intro x h hn; rw [hgm, if_neg (by omega)]; split
    · rfl
    · exact hn
  · intro x h
    simp [St.new, St.del] at h
    rw [hgm, hgi, if_neg (by omega), if_neg (by omega)]; exact hF.wf x (by omega)
  · intro x y R1 hy hR1
    rw [hgm] at hy
    split at hy
    · rename_i e; subst e; injection hy with hy; subst hy
      simp [ι'] at hR1; subst hR1
      rw [hr, putObj_heap _ _ _ hRr]; exact ho ι' hx
    · rename_i e1
      split at hy
      · cases hy
      · rename_i e2
        have h1 : ι x = some R1 := by simpa [ι', e1] using hR1
        rw [putObj_other _ _ (hother x R1 e2 (.inl (by rw [hy]; simp)) h1)]
        exact (hS.hm x y R1 hy h1).mono hx
  · intro x y R1 hy hR1
    rw [hgi] at hy
    have e1 : x ≠ s.k := fun e => by subst e; rw [hwf.2] at hy; cases hy
    have e2 : x ≠ b := fun e => by subst e; have := hS.dis x (by rw [hb]; simp); rw [this] at hy; cases hy
    have h1 : ι x = some R1 := by simpa [ι', e1] using hR1
    rw [putObj_other _ _ (hother x R1 e2 (.inr (by rw [hy]; simp)) h1)]
    exact (hS.hi x y R1 hy h1).mono hx
  · intro x x' R1 R2 h1 h2 hx1 hx2 he
    rw [hgm] at h1; rw [hgm, hgi] at h2
    by_cases e1 : x = s.k
    · subst e1
      simp [ι'] at hx1; subst hx1
      by_cases e2 : x' = s.k
      · exact e2.symm
      · rw [if_neg e2] at h2
        have h3 : ι x' = some R2 := by simpa [ι', e2] using hx2
        by_cases e3 : x' = b
        · subst e3
          rw [if_pos rfl] at h2
          rcases h2 with h2 | h2
          · exact absurd rfl h2
          · exact absurd (hS.dis x' (by rw [hb]; simp)) h2
        · rw [if_neg e3] at h2
          exact absurd (by omega) (hother x' R2 e3 h2 h3)
    · rw [if_neg e1] at h1
      have h3 : ι x = some R1 := by simpa [ι', e1] using hx1
      by_cases e0 : x = b
      · subst e0; rw [if_pos rfl] at h1; exact absurd rfl h1
      · rw [if_neg e0] at h1
        by_cases e2 : x' = s.k
        · subst e2; simp [ι'] at hx2; subst hx2
          exact absurd (by omega) (hother x R1 e0 (.inl h1) h3)
        · have h4 : ι x' = some R2 := by simpa [ι', e2] using hx2
          rw [if_neg e2] at h2
          by_cases e3 : x' = b
          · subst e3
            rw [if_pos rfl] at h2
            rcases h2 with h2 | h2
            · exact absurd rfl h2
            · exact absurd (hS.dis x' (by rw [hb]; simp)) h2
          · rw [if_neg e3] at h2
            exact hS.inj x x' R1 R2 h1 h2 h3 h4 he
  · intro x R1 h1
    rw [putObj_size]
    by_cases e1 : x = s.k
    · subst e1; simp [ι'] at h1; subst h1; omega
    · exact hS.bnd x R1 (by simpa [ι', e1] using h1)
  · intro x h
    rw [hgm] at h; rw [hgi]
    by_cases e1 : x = s.k
    · subst e1; exact hwf.2
    · rw [if_neg e1] at h
      by_cases e3 : x = b
      · subst e3; rw [if_pos rfl] at h; exact absurd rfl h
      · rw [if_neg e3] at h; exact hS.dis x h
end Go.Ev
