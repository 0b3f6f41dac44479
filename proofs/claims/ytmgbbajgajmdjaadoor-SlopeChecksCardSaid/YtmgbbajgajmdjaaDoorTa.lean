/- A small code for the functions of a program, and how it runs. -/
import Derived.RangeFuncLeaves

set_option linter.unusedSimpArgs false
set_option linter.unusedVariables false

/- The abstract interpreter: values, memory, the small code, its run. -/
namespace Go.AI

/-- The capacity of a slice: known; or up to its block's end, in elements of so many cells. -/
inductive Cap where
  | ex (n : Nat)
  | op (size : Nat)
  deriving Inhabited, DecidableEq

inductive V where
  | bool (b : Bool)
  | int (k : IntKind) (n : Int)
  | str (s : ByteArray)
  | nilp
  | ptr (o off : Nat)
  | lp (s off : Nat)
  | nils
  | slc (o off off0 len : Nat) (cap : Cap)
  | nilm
  | map (o : Nat)
  | fn (f : Fn) (first cap : List V)
  | nilf
  | nili
  | ifc (t : TypeId) (v : V)
  | agg (cs : List V)
  | tup (vs : List V)
  | dead
  deriving Inhabited

mutual
/-- All ids in a value are below n; no address of a box; nothing dead. -/
def V.under (n : Nat) : V → Bool
  | .ptr o _ => Nat.blt o n
  | .slc o _ _ _ _ => Nat.blt o n
  | .map o => Nat.blt o n
  | .fn f a b => (match f with | .yield l => Nat.blt l n | _ => true) && underL n a && underL n b
  | .ifc _ v => v.under n
  | .agg cs => underL n cs
  | .tup cs => underL n cs
  | .lp _ _ => false
  | .dead => false
  | _ => true
def V.underL (n : Nat) : List V → Bool
  | [] => true
  | v :: vs => v.under n && V.underL n vs
end

mutual
/-- A value without ids. -/
def V.flat : V → Bool
  | .ptr _ _ => false
  | .slc _ _ _ _ _ => false
  | .map _ => false
  | .fn f a b => (match f with | .yield _ => false | _ => true) && flatL a && flatL b
  | .ifc _ v => v.flat
  | .agg cs => flatL cs
  | .tup cs => flatL cs
  | .lp _ _ => false
  | .dead => false
  | _ => true
def V.flatL : List V → Bool
  | [] => true
  | v :: vs => v.flat && V.flatL vs
end

def sameFn : Fn → Fn → Bool
  | .func a, .func b => Nat.beq a b
  | .yield a, .yield b => Nat.beq a b
  | _, _ => false

mutual
/-- The same value, for sure. -/
def V.same : V → V → Bool
  | .bool a, .bool b => a == b
  | .int k a, .int k' b => decide (k = k') && a == b
  | .str a, .str b => a.data.toList == b.data.toList
  | .nilp, .nilp => true
  | .ptr o a, .ptr o' a' => Nat.beq o o' && Nat.beq a a'
  | .lp o a, .lp o' a' => Nat.beq o o' && Nat.beq a a'
  | .nils, .nils => true
  | .slc o a b l c, .slc o' a' b' l' c' => Nat.beq o o' && Nat.beq a a' && Nat.beq b b' && Nat.beq l l' && decide (c = c')
  | .nilm, .nilm => true
  | .map o, .map o' => Nat.beq o o'
  | .fn f a b, .fn f' a' b' => sameFn f f' && V.sameL a a' && V.sameL b b'
  | .nilf, .nilf => true
  | .nili, .nili => true
  | .ifc t v, .ifc t' v' => Nat.beq t t' && V.same v v'
  | .agg a, .agg b => V.sameL a b
  | .tup a, .tup b => V.sameL a b
  | _, _ => false
def V.sameL : List V → List V → Bool
  | [], [] => true
  | x :: xs, y :: ys => V.same x y && V.sameL xs ys
  | _, _ => false
end

/-- The cells of a value. -/
def V.cells : V → List V
  | .agg cs => cs
  | v => [v]

/-- A value of one cell that may lie in memory. -/
def V.one : V → Bool
  | .agg _ => false
  | .tup _ => false
  | .lp _ _ => false
  | .dead => false
  | _ => true

/-- A value that is neither dead nor the address of a box. -/
def V.ok : V → Bool
  | .lp _ _ => false
  | .dead => false
  | _ => true

def oks : List V → Bool
  | [] => true
  | v :: vs => v.ok && oks vs

def ones : List V → Bool
  | [] => true
  | v :: vs => v.one && ones vs

inductive Src where
  | loc (i : Nat)
  | var (i : Nat)
  | box (s : Nat)
  | cst (v : V)
  | glob (g : Nat)
  | fn (f : Nat)
  deriving Inhabited

/-- Where a new variable lies: a box of the activation, or memory. -/
abbrev Site := Option Nat

/-- What a plain cell holds. -/
inductive KD where | b | i | s
  deriving Inhabited, DecidableEq

inductive Eq where
  | plain (ks : List KD)       -- a bool, a number, a string
  | plainA (ks : List KD)      -- a struct or an array of these
  | nilSlice | nilFunc | nilPtr | nilIface | nilMap
  deriving Inhabited, DecidableEq

inductive POp where
  | fail
  | mv (x : Src)
  | pick (c a b : Src)
  | bld (zs : List V) (parts : List (Nat × Nat × Src))
  | ldA (n : Nat) (a : Src)
  | ld (a : Src)
  | nilCheck (x : Src)
  | arith (op : BinOp) (x y : Src)
  | eq (neg : Bool) (e : Eq) (x y : Src)
  | neg (x : Src) | not (x : Src) | inv (x : Src)
  | conv (k : IntKind) (x : Src)
  | mkIfc (t : TypeId) (x : Src)
  | mkFn (f : Fn) (first cap : List Src)
  | fieldAddr (off : Nat) (x : Src)
  | fieldA (off n : Nat) (x : Src)
  | field (off : Nat) (x : Src)
  | idxArr (len size : Nat) (x i : Src)
  | idxSl (size : Nat) (x i : Src)
  | elemA (len size : Nat) (x i : Src)
  | elem (len : Nat) (x i : Src)
  | byteAt (x i : Src)
  | slArr (n size : Nat) (x : Src) (lo hi mx : Option Src)
  | sl (size : Nat) (x : Src) (lo hi mx : Option Src)
  | slStr (x : Src) (lo hi : Option Src)
  | lookup (ok : Bool) (zero : V) (ks : Eq) (m k : Src)
  | extract (i : Nat) (x : Src)
  | lenOf (x : Src)
  | lenStr (x : Src)
  | lenC (n : Nat)
  | lenM (x : Src)
  | capOf (x : Src)
  | cpStr (x : Src)
  | minmax (isMax : Bool) (x : Src) (xs : List Src)
  deriving Inhabited

inductive EOp where
  | alloc (s : Site) (zs : List V)
  | boxv (s : Site) (x : Src)
  | bldSl (len : Nat) (zs : List V) (parts : List (Nat × Nat × Src))
  | st (n : Nat) (a x : Src)
  | mkMap
  | mkSl (bytes size : Nat) (zs : List V) (l c : Src)
  | append (bytes size : Nat) (s x : Src)
  | appendZ (bytes size : Nat) (zs : List V) (s x : Src)
  | copy (size : Nat) (d x : Src)
  | update (ks : Eq) (m k x : Src)
  deriving Inhabited

inductive COp where
  | fnv (f : Src) (args : List Src)
  | inv (table : List (TypeId × FuncId)) (x : Src) (args : List Src)
  deriving Inhabited

inductive RK where
  | p (o : POp) | e (o : EOp) | c (o : COp)
  deriving Inhabited

structure ROp where
  guard : Option (Src × Bool)
  op : RK
  deriving Inhabited

/-- An operation of a region that draws its order. 'flo': it makes a variable whose making no other operation but the last ones sees; 're': the operations that may come behind it, by their places: they are tried again. -/
structure DOp where
  o : ROp
  flo : Bool
  re : List (Nat × ROp)
  deriving Inhabited

inductive IC where
  | skip
  | region (ops : List ROp) (upd : List (Nat × Src))
  | draw (drop : List Nat) (free : List DOp) (regs : List (Nat × EOp)) (tail : List DOp) (upd : List (Nat × Src))
  | seq (a b : IC)
  | cond (c : Src) (t e : IC)
  | block (id : Nat) (b : IC)
  | loop (b : IC)
  | range (f : Src) (params : List (Option Nat)) (assign body : IC)
  | exit (id : Nat)
  | ret
  deriving Inhabited

inductive Ex where
  | normal | exit (id : Nat) | ret
  deriving Inhabited, DecidableEq

inductive LState where | ready | busy | done | exhausted
  deriving Inhabited, DecidableEq

inductive Ob where
  | cells (cs : List V) (ro : Bool)
  | mp (es : List (V × V))
  | loop (st : LState) (pend : Option Ex) (A : List V) (params : List (Option Nat)) (assign body : IC)
  | gone
  deriving Inhabited

structure Mem where
  objs : List Ob
  next : Nat
  lo : Nat      -- the first id of this activation
  wmin : Nat    -- the least id below lo that was written; none: lo
  dmin : Nat    -- the least id below lo in which something with ids was written; none: lo
  deriving Inhabited

def Mem.get (m : Mem) (o : Nat) : Option Ob := if Nat.blt o m.next then m.objs[m.next - 1 - o]? else none
def Mem.push (m : Mem) (x : Ob) : Mem := { m with objs := x :: m.objs, next := m.next + 1 }
/-- A write to an object; 'p': what is written may hold ids. -/
def Mem.put (m : Mem) (o : Nat) (x : Ob) (flat : Bool) : Mem :=
  if Nat.blt o m.lo then { m with objs := m.objs.set (m.next - 1 - o) x, wmin := min m.wmin o, dmin := if flat then m.dmin else min m.dmin o }
  else { m with objs := m.objs.set (m.next - 1 - o) x }

/-- The boxes of an activation, by site. -/
abbrev Boxes := List (List V)

def Boxes.get (L : Boxes) (s : Nat) : List V := L.getD s []
def Boxes.put : Boxes → Nat → List V → Boxes
  | [], 0, c => [c]
  | [], s + 1, c => [] :: Boxes.put [] s c
  | _ :: L, 0, c => c :: L
  | x :: L, s + 1, c => x :: Boxes.put L s c

def ev (locs A : List V) : Src → V
  | .loc i => locs.getD i .dead
  | .var i => A.getD i .dead
  | .box s => .lp s 0
  | .cst v => v
  | .glob g => .ptr g 0
  | .fn f => .fn (.func f) [] []

def evL (locs A : List V) : List Src → List V
  | [] => []
  | x :: xs => ev locs A x :: evL locs A xs

/-- n cells from a place. -/
def slice (cs : List V) (off n : Nat) : List V := (cs.drop off).take n

def splice (cs : List V) (off : Nat) (xs : List V) : List V := cs.take off ++ xs ++ cs.drop (off + xs.length)

/-- n cells at an address. -/
def readN (L : Boxes) (m : Mem) (a : V) (n : Nat) : Option (List V) :=
  match a with
  | .lp s off => let cs := L.get s; if Nat.blt 0 cs.length && Nat.ble (off + n) cs.length then some (slice cs off n) else none
  | .ptr o off => match m.get o with
    | some (.cells cs _) => if Nat.ble (off + n) cs.length then some (slice cs off n) else none
    | _ => none
  | _ => none

def read1 (L : Boxes) (m : Mem) (a : V) : Option V :=
  match a with
  | .lp s off => (L.get s)[off]?
  | .ptr o off => match m.get o with
    | some (.cells cs _) => cs[off]?
    | _ => none
  | _ => none

def wrap64 (n : Int) : Int :=
  let m := n % 18446744073709551616
  if m ≥ 9223372036854775808 then m - 18446744073709551616 else m

def wrapK (k : IntKind) (n : Int) : Int :=
  match k with
  | .i64 => wrap64 n
  | k => k.wrap n

def arith (op : BinOp) (x y : V) : Option V :=
  match x, y with
  | .int k a, .int k' b =>
    match op with
    | .shl => if b < 0 then none else some (.int k (wrapK k (a * 2 ^ (min b.toNat k.bits))))
    | .shr => if b < 0 then none else some (.int k (a.fdiv (2 ^ (min b.toNat k.bits))))
    | op => if k = k' then
      match op with
      | .add => some (.int k (wrapK k (a + b)))
      | .sub => some (.int k (wrapK k (a - b)))
      | .mul => some (.int k (wrapK k (a * b)))
      | .quo => if b = 0 then none else some (.int k (wrapK k (a.tdiv b)))
      | .rem => if b = 0 then none else some (.int k (a.tmod b))
      | .and => some (.int k (k.wrap (BitVec.ofInt k.bits a &&& BitVec.ofInt k.bits b).toNat))
      | .or => some (.int k (k.wrap (BitVec.ofInt k.bits a ||| BitVec.ofInt k.bits b).toNat))
      | .xor => some (.int k (k.wrap (BitVec.ofInt k.bits a ^^^ BitVec.ofInt k.bits b).toNat))
      | .andNot => some (.int k (k.wrap (BitVec.ofInt k.bits a &&& ~~~ BitVec.ofInt k.bits b).toNat))
      | .lss => some (.bool (decide (a < b)))
      | .leq => some (.bool (decide (a ≤ b)))
      | .gtr => some (.bool (decide (a > b)))
      | .geq => some (.bool (decide (a ≥ b)))
      | .eql => some (.bool (a == b))
      | .neq => some (.bool (a != b))
      | _ => none
      else none
  | .str a, .str b =>
    match op with
    | .add => if a.size + b.size < 4611686018427387904 then some (.str (a ++ b)) else none
    | .eql => some (.bool (a.toList == b.toList))
    | .neq => some (.bool (!(a.toList == b.toList)))
    | .lss => some (.bool (Op.bytesLess a.toList b.toList))
    | .leq => some (.bool (Op.bytesLess a.toList b.toList || a.toList == b.toList))
    | .gtr => some (.bool (!(Op.bytesLess a.toList b.toList || a.toList == b.toList)))
    | .geq => some (.bool (!(Op.bytesLess a.toList b.toList)))
    | _ => none
  | _, _ => none

/-- Equality of plain cells. -/
def eq1 : KD → V → V → Option Bool
  | .b, .bool a, .bool b => some (a == b)
  | .i, .int k a, .int k' b => if k = k' then some (a == b) else none
  | .s, .str a, .str b => some (a == b)
  | _, _, _ => none

def eqL : List KD → List V → List V → Option Bool
  | [], [], [] => some true
  | k :: ks, x :: xs, y :: ys => match eq1 k x y with
    | some true => eqL ks xs ys
    | some false => match eqL ks xs ys with | some _ => some false | none => none
    | none => none
  | _, _, _ => none

def eqV (e : Eq) (x y : V) : Option Bool :=
  match e with
  | .plain ks => eqL ks [x] [y]
  | .plainA ks => match x, y with
    | .agg a, .agg b => eqL ks a b
    | _, _ => none
  | .nilSlice => match x, y with
    | .nils, .nils => some true
    | .nils, .slc .. => some false
    | .slc .., .nils => some false
    | _, _ => none
  | .nilFunc => match x, y with
    | .nilf, .nilf => some true
    | .nilf, .fn .. => some false
    | .fn .., .nilf => some false
    | _, _ => none
  | .nilPtr => match x, y with
    | .nilp, .nilp => some true
    | .nilp, .ptr .. => some false
    | .ptr .., .nilp => some false
    | _, _ => none
  | .nilIface => match x, y with
    | .nili, .ifc .. => some false
    | .ifc .., .nili => some false
    | .nili, .nili => some true
    | _, _ => none
  | .nilMap => match x, y with
    | .nilm, .nilm => some true
    | .nilm, .map .. => some false
    | .map .., .nilm => some false
    | _, _ => none

def fillP (cs : List V) : List (Nat × Nat × V) → Option (List V)
  | [] => some cs
  | (off, size, v) :: rest =>
    let vs := v.cells
    if Nat.beq vs.length size && Nat.ble (off + size) cs.length && ones vs then fillP (splice cs off vs) rest else none

def evP (locs A : List V) : List (Nat × Nat × Src) → List (Nat × Nat × V)
  | [] => []
  | (a, b, x) :: r => (a, b, ev locs A x) :: evP locs A r

def V.asNat (v : V) : Option Nat :=
  match v with
  | .int _ n => if n < 0 then none else some n.toNat
  | _ => none

def optNat (locs A : List V) (x : Option Src) (d : Nat) : Option Nat :=
  match x with
  | none => some d
  | some s => (ev locs A s).asNat

/-- The entry of a key: its place and its value. -/
def findKey (ks : Eq) (k : V) : List (V × V) → Nat → Option (Option (Nat × V))
  | [], _ => some none
  | (a, v) :: es, i => match eqV ks k a with
    | some true => some (some (i, v))
    | some false => findKey ks k es (i + 1)
    | none => none

/-- A key of the right kinds: it equals itself. -/
def plainKey (ks : Eq) (v : V) : Bool := match eqV ks v v with | some _ => true | none => false

def min2 (x y : V) : Option V :=
  match x, y with
  | .int k a, .int k' b => if k = k' then some (.int k (if b < a then b else a)) else none
  | _, _ => none
def max2 (x y : V) : Option V :=
  match x, y with
  | .int k a, .int k' b => if k = k' then some (.int k (if b > a then b else a)) else none
  | _, _ => none
def foldV (f : V → V → Option V) : V → List V → Option V
  | x, [] => some x
  | x, y :: ys => match f x y with | some z => foldV f z ys | none => none

/-- Not the yield of a loop. -/
def plainFn : Fn → Bool
  | .yield _ => false
  | _ => true

def pureOp (locs A : List V) (L : Boxes) (m : Mem) (o : POp) : Option V :=
  let e := ev locs A
  match o with
  | .fail => none
  | .mv x => some (e x)
  | .pick c a b => match e c with | .bool t => some (cond t (e a) (e b)) | _ => none
  | .bld zs parts => match fillP zs (evP locs A parts) with | some cs => some (.agg cs) | none => none
  | .ldA n a => match readN L m (e a) n with | some cs => some (.agg cs) | none => none
  | .ld a => read1 L m (e a)
  | .nilCheck x => match e x with
    | .ptr o off => some (.ptr o off)
    | .lp s off => if Nat.blt 0 (L.get s).length then some (.lp s off) else none
    | .fn f a b => match f with | .method _ => none | f => some (.fn f a b)
    | .ifc t v => some (.ifc t v)
    | _ => none
  | .arith op x y => arith op (e x) (e y)
  | .eq neg q x y => match eqV q (e x) (e y) with | some b => some (.bool (neg != b)) | none => none
  | .neg x => match e x with | .int k n => some (.int k (wrapK k (0 - n))) | _ => none
  | .not x => match e x with | .bool b => some (.bool (!b)) | _ => none
  | .inv x => match e x with | .int k n => some (.int k (k.wrap (BitVec.ofInt k.bits (if k.signed then -1 else k.max) ^^^ BitVec.ofInt k.bits n).toNat)) | _ => none
  | .conv k x => match e x with | .int _ n => some (.int k (wrapK k n)) | _ => none
  | .mkIfc t x => if (e x).ok then some (.ifc t (e x)) else none
  | .mkFn f a b => if oks (evL locs A a) && oks (evL locs A b) && plainFn f then some (.fn f (evL locs A a) (evL locs A b)) else none
  | .fieldAddr off x => match e x with
    | .ptr o a => some (.ptr o (a + off))
    | .lp s a => if Nat.blt 0 (L.get s).length then some (.lp s (a + off)) else none
    | _ => none
  | .fieldA off n x => match e x with | .agg cs => if Nat.ble (off + n) cs.length then some (.agg (slice cs off n)) else none | _ => none
  | .field off x => match e x with | .agg cs => cs[off]? | _ => none
  | .idxArr len size x i => match (e i).asNat with
    | some n => if Nat.blt n len then
        match e x with
        | .ptr o a => some (.ptr o (a + n * size))
        | .lp s a => if Nat.blt 0 (L.get s).length then some (.lp s (a + n * size)) else none
        | _ => none
      else none
    | none => none
  | .idxSl size x i => match (e i).asNat with
    | some n => match e x with
      | .slc o off _ len _ => if Nat.blt n len then some (.ptr o (off + n * size)) else none
      | _ => none
    | none => none
  | .elemA len size x i => match (e i).asNat, e x with
    | some n, .agg cs => if Nat.blt n len && Nat.ble (n * size + size) cs.length then some (.agg (slice cs (n * size) size)) else none
    | _, _ => none
  | .elem len x i => match (e i).asNat, e x with
    | some n, .agg cs => if Nat.blt n len then cs[n]? else none
    | _, _ => none
  | .byteAt x i => match (e i).asNat, e x with
    | some n, .str s => match s[n]? with | some b => some (.int .u8 b.toNat) | none => none
    | _, _ => none
  | .slArr n size x lo hi mx => match optNat locs A mx n with
    | some c => match optNat locs A hi (if mx.isNone then n else n + 1) with
      | some h => match optNat locs A lo 0 with
        | some l => if Nat.ble l h && Nat.ble h c && Nat.ble c n then
            match e x with
            | .ptr o a => some (.slc o (if Nat.beq c l then a else a + l * size) 0 (h - l) (.ex (c - l)))
            | _ => none
          else none
        | none => none
      | none => none
    | none => none
  | .sl size x lo hi mx => match e x with
    | .nils => match optNat locs A mx 0, optNat locs A hi (if mx.isNone then 0 else 1), optNat locs A lo 0 with
      | some 0, some 0, some 0 => some .nils
      | _, _, _ => none
    | .slc o off off0 len (.ex cap) => match optNat locs A mx cap with
      | some c => match optNat locs A hi (if mx.isNone then len else cap + 1) with
        | some h => match optNat locs A lo 0 with
          | some l => if Nat.ble l h && Nat.ble h c && Nat.ble c cap then some (.slc o (if Nat.beq c l then off else off + l * size) off0 (h - l) (.ex (c - l))) else none
          | none => none
        | none => none
      | none => none
    | .slc o off off0 len (.op esz) => if !(Nat.beq esz size) then none else match mx with
      | none => match optNat locs A hi len with
        | some h => match optNat locs A lo 0 with
          | some l => if Nat.ble l h && Nat.ble h len then
              some (if Nat.beq l 0 then .slc o off off0 h (.op esz) else .slc o (off + l * size) off (h - l) (.op esz))
            else none
          | none => none
        | none => none
      | some x => match (ev locs A x).asNat with
        | some c => match optNat locs A hi (len + 1) with
          | some h => match optNat locs A lo 0 with
            | some l => if Nat.ble l h && Nat.ble h c && Nat.ble c len && Nat.blt 0 len then some (.slc o (if Nat.beq c l then off else off + l * size) off0 (h - l) (.ex (c - l))) else none
            | none => none
          | none => none
        | none => none
    | _ => none
  | .slStr x lo hi => match e x with
    | .str s => match optNat locs A hi s.size with
      | some h => match optNat locs A lo 0 with
        | some l => if Nat.ble l h && Nat.ble h s.size then some (.str (s.extract l h)) else none
        | none => none
      | none => none
    | _ => none
  | .lookup ok zero ks x k => if plainKey ks (e k) then
      match e x with
      | .nilm => some (if ok then .tup [zero, .bool false] else zero)
      | .map o => match m.get o with
        | some (.mp es) => match findKey ks (e k) es 0 with
          | some (some (_, v)) => some (if ok then .tup [v, .bool true] else v)
          | some none => some (if ok then .tup [zero, .bool false] else zero)
          | none => none
        | _ => none
      | _ => none
    else none
  | .extract i x => match e x with | .tup vs => vs[i]? | _ => none
  | .lenOf x => match e x with
    | .nils => some (.int .i64 0)
    | .slc _ _ _ len _ => some (.int .i64 len)
    | _ => none
  | .lenStr x => match e x with
    | .str s => some (.int .i64 s.size)
    | _ => none
  | .lenC n => some (.int .i64 n)
  | .lenM x => match e x with
    | .nilm => some (.int .i64 0)
    | .map o => match m.get o with | some (.mp es) => some (.int .i64 es.length) | _ => none
    | _ => none
  | .capOf x => match e x with
    | .nils => some (.int .i64 0)
    | .slc _ _ _ _ (.ex c) => some (.int .i64 c)
    | _ => none
  | .cpStr x => match e x with | .str s => some (.str s) | _ => none
  | .minmax isMax x xs => foldV (if isMax then max2 else min2) (e x) (evL locs A xs)

/-- A new variable. -/
def newVar (s : Site) (cs : List V) (L : Boxes) (m : Mem) : V × Boxes × Mem :=
  match s with
  | some s => (.lp s 0, L.put s cs, m)
  | none => (.ptr m.next 0, L, m.push (.cells cs false))

/-- The cells of a slice's or a string's elements. -/
def cellsOf (m : Mem) (size : Nat) (x : V) : Option (List V × Nat) :=
  match x with
  | .nils => some ([], 0)
  | .slc o off _ len _ => if Nat.beq len 0 then some ([], 0) else match m.get o with
    | some (.cells cs _) => if Nat.ble (off + len * size) cs.length then some (slice cs off (len * size), len) else none
    | _ => none
  | .str s => some (s.data.toList.map fun b => V.int .u8 b.toNat, s.size)
  | _ => none

def writeN (L : Boxes) (m : Mem) (a : V) (xs : List V) : Option (Boxes × Mem) :=
  match a with
  | .lp s off => let cs := L.get s; if Nat.blt 0 cs.length && Nat.ble (off + xs.length) cs.length then some (L.put s (splice cs off xs), m) else none
  | .ptr o off => match m.get o with
    | some (.cells cs false) => if Nat.ble (off + xs.length) cs.length then some (L, m.put o (.cells (splice cs off xs) false) (V.flatL xs)) else none
    | _ => none
  | _ => none

def reps : Nat → List V → List V
  | 0, _ => []
  | n + 1, zs => zs ++ reps n zs

/-- n elements (their cells: new) behind those of a slice. -/
def append (L : Boxes) (m : Mem) (bytes size : Nat) (s : V) (new : List V) (n : Nat) : Option (V × Boxes × Mem) :=
  if !(ones new && Nat.beq new.length (n * size) && Nat.blt 0 size) then none else
  match s with
  | .nils =>
    if Nat.beq n 0 then some (.nils, L, m)
    else if Nat.ble (n * bytes) 140737488355328 && Nat.blt n 4611686018427387904 then some (.slc m.next 0 0 n (.op size), L, m.push (.cells new false)) else none
  | .slc o off off0 len cap =>
    if Nat.beq n 0 then (match cap with | .ex c => if Nat.ble len c then some (.slc o off off0 len cap, L, m) else none | .op _ => some (.slc o off off0 len cap, L, m)) else
    match m.get o with
    | some (.cells cs ro) =>
      if Nat.ble (off + len * size) cs.length && Nat.ble ((len + n) * bytes * 2) 140737488355328 && Nat.blt (len + n) 4611686018427387904 then
        match cap with
        | .ex c =>
          if Nat.ble (len + n) c then
            if !ro && Nat.ble (off + (len + n) * size) cs.length then
              some (.slc o off off0 (len + n) cap, L, m.put o (.cells (splice cs (off + len * size) new) false) (V.flatL new))
            else none
          else some (.slc m.next 0 0 (len + n) (.op size), L, m.push (.cells (slice cs off (len * size) ++ new) false))
        | .op esz =>
          if ro || !Nat.beq esz size then none else
          some (.slc m.next 0 0 (len + n) (.op size), L, (m.put o .gone true).push (.cells (slice cs off (len * size) ++ new) false))
      else none
    | _ => none
  | _ => none

def effOp (locs A : List V) (L : Boxes) (m : Mem) (o : EOp) : Option (V × Boxes × Mem) :=
  let e := ev locs A
  match o with
  | .alloc s zs => some (newVar s zs L m)
  | .boxv s x => let cs := (e x).cells; if ones cs then some (newVar s cs L m) else none
  | .bldSl len zs parts => match fillP zs (evP locs A parts) with
    | some cs => some (.slc m.next 0 0 len (.ex len), L, m.push (.cells cs false))
    | none => none
  | .st n a x => let cs := (e x).cells
    if Nat.beq cs.length n && ones cs then
      match writeN L m (e a) cs with
      | some (L, m) => some (.tup [], L, m)
      | none => none
    else none
  | .mkMap => some (.map m.next, L, m.push (.mp []))
  | .mkSl bytes _size zs l c => match (e l).asNat, (e c).asNat with
    | some l, some c => if Nat.ble l c && Nat.ble (bytes * c) 281474976710656 && Nat.blt c 9223372036854775808 then
        some (.slc m.next 0 0 l (.ex c), L, m.push (.cells (reps c zs) false))
      else none
    | _, _ => none
  | .append bytes size s x =>
    match cellsOf m size (e x) with
    | none => none
    | some (new, n) => append L m bytes size (e s) new n
  | .appendZ bytes size zs s x =>
    match (e x).asNat with
    | none => none
    | some n => if Nat.ble (n * bytes) 281474976710656 && Nat.blt n 4611686018427387904 && Nat.beq zs.length size then append L m bytes size (e s) (reps n zs) n else none
  | .copy size d x =>
    match cellsOf m size (e x) with
    | none => none
    | some (new, n) => if !ones new then none else
      match e d with
      | .nils => some (.int .i64 0, L, m)
      | .slc o off _ len _ =>
        let k := min n len
        if Nat.beq k 0 then some (.int .i64 0, L, m) else
        match writeN L m (.ptr o off) (new.take (k * size)) with
        | some (L, m) => some (.int .i64 k, L, m)
        | none => none
      | _ => none
  | .update ks x k v => if plainKey ks (e k) && (e v).ok then
      match e x with
      | .map o => match m.get o with
        | some (.mp es) => match findKey ks (e k) es 0 with
          | some (some (i, _)) => some (.tup [], L, m.put o (.mp (es.set i (e k, e v))) ((e k).flat && (e v).flat))
          | some none => some (.tup [], L, m.put o (.mp (es ++ [(e k, e v)])) ((e k).flat && (e v).flat))
          | none => none
        | _ => none
      | _ => none
    else none


/-- The state of a run of code. -/
structure St where
  A : List V
  L : Boxes
  m : Mem
  deriving Inhabited

abbrev Ans := Option (V × Mem)

/-- A call: a value that is called, its arguments. -/
abbrev CallF := V → List V → Mem → Ans

def wantedG (locs A : List V) : Option (Src × Bool) → Option Bool
  | none => some true
  | some (s, b) => match ev locs A s with
    | .bool c => some (c == b)
    | .dead => none
    | .lp _ _ => none
    | _ => some false

def findT (t : TypeId) : List (TypeId × FuncId) → Option FuncId
  | [] => none
  | (u, f) :: r => if Nat.beq t u then some f else findT t r

def callOp (call : CallF) (locs A : List V) (m : Mem) (o : COp) (K : V → Mem → Ans) : Ans :=
  match o with
  | .fnv f args => match call (ev locs A f) (evL locs A args) m with
    | some (v, m) => K v m
    | none => none
  | .inv table x args => match ev locs A x with
    | .ifc t v => match findT t table with
      | some f => match call (.fn (.func f) [] []) (v :: evL locs A args) m with
        | some (v, m) => K v m
        | none => none
      | none => none
    | _ => none

/-- A new box leaves no address of the elder one. -/
def deaden (s : Nat) : List V → List V
  | [] => []
  | .lp s' off :: vs => (if Nat.beq s s' then .dead else .lp s' off) :: deaden s vs
  | v :: vs => v :: deaden s vs

def siteOf : EOp → Site
  | .alloc s _ => s
  | .boxv s _ => s
  | _ => none

/-- The operations of a region; locs: the values of those before, the last first. -/
def execOps (call : CallF) (A : List V) : List ROp → List V → Boxes → Mem → (List V → Boxes → Mem → Ans) → Ans
  | [], locs, L, m, K => K locs L m
  | o :: ops, locs, L, m, K =>
    match wantedG locs A o.guard with
    | none => none
    | some false => execOps call A ops (.tup [] :: (match o.op with | .e q => (match siteOf q with | some s => deaden s locs | none => locs) | _ => locs)) (match o.op with | .e q => (match siteOf q with | some s => L.put s [] | none => L) | _ => L) m K
    | some true => match o.op with
      | .p q => match pureOp locs A L m q with
        | some v => execOps call A ops (v :: locs) L m K
        | none => none
      | .e q => match effOp locs A L m q with
        | some (v, L, m) => execOps call A ops (v :: (match siteOf q with | some s => deaden s locs | none => locs)) L m K
        | none => none
      | .c q => callOp call locs A m q fun v m => execOps call A ops (v :: locs) L m K

def enter (m : Mem) : Mem := { m with lo := m.next, wmin := m.next, dmin := m.next }

/-- The operations that may come behind one, tried again behind it. -/
def recheck (locs A : List V) (L : Boxes) (m : Mem) : List (Nat × ROp) → Bool
  | [] => true
  | (k, r) :: rs => (match wantedG (locs.drop (k + 1)) A r.guard with
    | some false => true
    | some true => match r.op with
      | .p q => match pureOp (locs.drop (k + 1)) A L m q with
        | some v => v.same (locs.getD k .dead)
        | none => false
      | _ => false
    | none => false) && recheck locs A L m rs

/-- An operation of a region that draws its order. -/
def stepD (call : CallF) (A : List V) (d : DOp) (locs : List V) (L : Boxes) (m : Mem) : Option (V × Boxes × Mem) :=
  if d.flo then (match d.o.guard with | none => some (.dead, L, m) | _ => none) else
  match wantedG locs A d.o.guard with
  | none => none
  | some false => match d.o.op with
    | .e q => match siteOf q with | none => some (.tup [], L, m) | some _ => none
    | _ => some (.tup [], L, m)
  | some true => match d.o.op with
    | .p q => match pureOp locs A L m q with
      | some v => some (v, L, m)
      | none => none
    | .e q => match siteOf q with
      | some _ => none
      | none => match effOp locs A L m q with
        | some (v, L', m') => if recheck locs A L' m' d.re then some (v, L', m') else none
        | none => none
    | .c q => match callOp call locs A m q fun v m => some (v, m) with
      | some (v, m') => if recheck locs A L m' d.re then some (v, L, m') else none
      | none => none

def runD (call : CallF) (A : List V) : List DOp → List V → Boxes → Mem → Option (List V × Boxes × Mem)
  | [], locs, L, m => some (locs, L, m)
  | d :: ds, locs, L, m => match stepD call A d locs L m with
    | some (v, L, m) => runD call A ds (v :: locs) L m
    | none => none

def dropSites : List Nat → Boxes → Boxes
  | [], L => L
  | s :: ss, L => dropSites ss (L.put s [])

/-- The variables that were made are there from here on; 'o': the values as they were. -/
def regD (o A : List V) : List (Nat × EOp) → List V → Boxes → Mem → Option (List V × Boxes × Mem)
  | [], locs, L, m => some (locs, L, m)
  | (k, q) :: rs, locs, L, m => match q with
    | .alloc (some s) zs => regD o A rs (deaden s locs) (L.put s zs) m
    | .alloc none zs => regD o A rs (locs.set k (.ptr m.next 0)) L (m.push (.cells zs false))
    | .bldSl len zs parts => match fillP zs (evP (o.drop (k + 1)) A parts) with
      | some cs => regD o A rs (locs.set k (.slc m.next 0 0 len (.ex len))) L (m.push (.cells cs false))
      | none => none
    | _ => none

/-- What may lie in a variable: no address of a box. -/
def V.noLp : V → Bool
  | .lp _ _ => false
  | _ => true

def applyUpd (locs : List V) : List (Nat × Src) → List V → List V → Option (List V)
  | [], _, A' => some A'
  | (i, s) :: r, A, A' => let v := ev locs A s; if v.noLp then applyUpd locs r A (A'.set i v) else none

def setParams : List (Option Nat) → List V → List V → Option (List V)
  | [], [], A => some A
  | some i :: ps, v :: vs, A => setParams ps vs (A.set i v)
  | none :: ps, _ :: vs, A => setParams ps vs A
  | _, _, _ => none

def iter : Nat → (St → (Ex → St → Ans) → Ans) → St → (Ex → St → Ans) → Ans
  | 0, _, _, _ => none
  | n + 1, body, s, K => body s fun e s' => match e with
    | .normal => iter n body s' K
    | e => K e s'

/-- A run of code: 'n': the bound of the rounds of each loop. -/
def exec (call : CallF) (n : Nat) : IC → St → (Ex → St → Ans) → Ans
  | .skip, s, K => K .normal s
  | .region ops upd, s, K => execOps call s.A ops [] s.L s.m fun locs L m =>
      match applyUpd locs upd s.A s.A with
      | some A => K .normal ⟨A, L, m⟩
      | none => none
  | .draw drop free regs tail upd, s, K => match runD call s.A free [] (dropSites drop s.L) s.m with
    | some (locs, L, m) => match regD locs s.A regs locs L m with
      | some (locs, L, m) => match runD call s.A tail locs L m with
        | some (locs, L, m) => match applyUpd locs upd s.A s.A with
          | some A => K .normal ⟨A, L, m⟩
          | none => none
        | none => none
      | none => none
    | none => none
  | .seq a b, s, K => exec call n a s fun e s' => match e with
    | .normal => exec call n b s' K
    | e => K e s'
  | .cond c t e, s, K => match ev [] s.A c with
    | .bool true => exec call n t s K
    | .bool false => exec call n e s K
    | _ => none
  | .block id b, s, K => exec call n b s fun e s' => match e with
    | .exit i => if Nat.beq i id then K .normal s' else K (.exit i) s'
    | e => K e s'
  | .loop b, s, K => iter n (exec call n b) s K
  | .range f ps assign body, s, K =>
    let l := s.m.next
    let m := s.m.push (.loop .ready none s.A ps assign body)
    match (match ev [] s.A f with | .fn (.func g) a b => call (.fn (.func g) a b) [.fn (.yield l) [] []] m | _ => none) with
    | some (_, m') => match m'.get l with
      | some (.loop st pend A ps assign body) => match st with
        | .busy => none
        | _ => let m2 := m'.put l (.loop .exhausted pend A ps assign body) true
          match pend with
          | none => K .normal ⟨s.A, s.L, m2⟩
          | some e => K e ⟨s.A, s.L, m2⟩
      | _ => none
    | none => none
  | .exit id, s, K => K (.exit id) s
  | .ret, s, K => K .ret s

/-- A result: a variable; a box; a variable's cell. -/
inductive RSrc where
  | var (i : Nat)
  | box (s : Nat) (agg : Bool) (n : Nat)
  | cell (i : Nat) (agg : Bool) (n : Nat)
  deriving Inhabited

structure IFun where
  vars : List Nat
  results : List RSrc
  body : IC
  deriving Inhabited

def result1 (s : St) : RSrc → Option V
  | .var i => some (s.A.getD i .dead)
  | .box b agg n => if agg then (readN s.L s.m (.lp b 0) n).map V.agg else read1 s.L s.m (.lp b 0)
  | .cell i agg n => if agg then (readN s.L s.m (s.A.getD i .dead) n).map V.agg else read1 s.L s.m (s.A.getD i .dead)

def resultsL (s : St) : List RSrc → Option (List V)
  | [] => some []
  | r :: rs => match result1 s r with
    | some v => match resultsL s rs with
      | some vs => some (v :: vs)
      | none => none
    | none => none

def resultV (s : St) (rs : List RSrc) : Option V :=
  match resultsL s rs with
  | some [v] => some v
  | some vs => some (.tup vs)
  | none => none

def initA (args : List V) : List Nat → List V
  | [] => []
  | t :: ts => args.getD t (.tup []) :: initA args ts

mutual
/-- The ids from n on, each once, the first met last. -/
def newIds (n : Nat) : V → List Nat → List Nat
  | .ptr o _, acc => if Nat.blt o n || acc.contains o then acc else o :: acc
  | .slc o _ _ _ _, acc => if Nat.blt o n || acc.contains o then acc else o :: acc
  | .map o, acc => if Nat.blt o n || acc.contains o then acc else o :: acc
  | .fn f a b, acc => newIdsL n b (newIdsL n a (match f with | .yield o => if Nat.blt o n || acc.contains o then acc else o :: acc | _ => acc))
  | .ifc _ v, acc => newIds n v acc
  | .agg cs, acc => newIdsL n cs acc
  | .tup cs, acc => newIdsL n cs acc
  | _, acc => acc
def newIdsL (n : Nat) : List V → List Nat → List Nat
  | [], acc => acc
  | v :: vs, acc => newIdsL n vs (newIds n v acc)
end

/-- The place of an id in a list, from its end. -/
def place (o : Nat) : List Nat → Nat
  | [] => 0
  | x :: xs => if Nat.beq x o then xs.length else place o xs

def newId (n : Nat) (ids : List Nat) (o : Nat) : Nat := if Nat.blt o n then o else n + place o ids

mutual
def rename (n : Nat) (ids : List Nat) : V → V
  | .ptr o off => .ptr (newId n ids o) off
  | .slc o a b l c => .slc (newId n ids o) a b l c
  | .map o => .map (newId n ids o)
  | .fn f a b => .fn (match f with | .yield o => .yield (newId n ids o) | f => f) (renameL n ids a) (renameL n ids b)
  | .ifc t v => .ifc t (rename n ids v)
  | .agg cs => .agg (renameL n ids cs)
  | .tup cs => .tup (renameL n ids cs)
  | v => v
def renameL (n : Nat) (ids : List Nat) : List V → List V
  | [] => []
  | v :: vs => rename n ids v :: renameL n ids vs
end

/-- The objects of some ids, if what they hold lies below n. -/
def keep (m : Mem) (n : Nat) : List Nat → Option (List Ob)
  | [] => some []
  | o :: os => match m.get o with
    | some (.cells cs ro) => if V.underL n cs then
        match keep m n os with
        | some r => some (.cells cs ro :: r)
        | none => none
      else none
    | _ => none

/-- A least id, seen from the activation before. -/
def back (lo a b : Nat) : Nat := if Nat.blt b lo then min a b else a

/-- All is kept. -/
def keepAll (m m2 : Mem) : Mem := { m2 with lo := m.lo, wmin := back m.lo m.wmin m2.wmin, dmin := back m.lo m.dmin m2.dmin }

/-- What of the elder objects is left. -/
def elder (m m2 : Mem) : Mem := if Nat.blt m2.wmin m.next then { m with objs := m2.objs.drop (m2.next - m.next), wmin := back m.lo m.wmin m2.wmin } else m

/-- What is kept behind a call that began in m and ended in m2 with v. -/
def settle (m m2 : Mem) (v : V) : V × Mem :=
  if Nat.blt m2.dmin m.next then (v, keepAll m m2) else
  match newIds m.next v [] with
  | [] => (v, elder m m2)
  | ids => match keep m2 m.next ids with
    | some obs => (rename m.next ids v, { elder m m2 with objs := obs ++ (elder m m2).objs, next := m.next + ids.length })
    | none => (v, keepAll m m2)


/-- A call with d levels of calls and n rounds of each loop to go. -/
def call (tab : FuncId → Option IFun) (n : Nat) : Nat → CallF
  | 0, _, _, _ => none
  | d + 1, f, args, m =>
    match f with
    | .fn (.func g) first cap => match tab g with
      | some F =>
        let as := first ++ args ++ cap
        if V.underL m.next as then
          exec (call tab n d) n F.body ⟨initA as F.vars, [], enter m⟩ fun e s => match e with
            | .exit _ => none
            | _ => match resultV s F.results with
              | some v => if V.under s.m.next v then some (settle m s.m v) else none
              | none => none
        else none
      | none => none
    | .fn (.yield l) [] _ => match m.get l with
      | some (.loop st _ A ps assign body) => match st with
        | .ready => if !(oks args) then none else match setParams ps args A with
          | some A1 => exec (call tab n d) n assign ⟨A1, [], m⟩ fun e s => match e with
            | .normal => match s.m.get l with
              | some (.loop .ready pend2 A2 ps2 asg2 bd2) =>
                exec (call tab n d) n body { s with m := s.m.put l (.loop .busy pend2 A2 ps2 asg2 bd2) true } fun e s => match s.m.get l with
                  | some (.loop _ _ A3 ps3 asg3 bd3) => match e with
                    | .normal => some (.bool true, s.m.put l (.loop .ready none A3 ps3 asg3 bd3) true)
                    | e => some (.bool false, s.m.put l (.loop .done (some e) A3 ps3 asg3 bd3) true)
                  | _ => none
              | _ => none
            | _ => none
          | none => none
        | _ => none
      | _ => none
    | _ => none

end Go.AI

/- From the model's code to the small code. -/
namespace Go.AI

/-- A constant. -/
def ofVal : Nat → Value → Option V
  | 0, _ => none
  | n + 1, v => match v with
    | .bool b => some (.bool b)
    | .int k i => some (.int k i)
    | .string s => some (.str s)
    | .pointer none => some .nilp
    | .slice none 0 0 => some .nils
    | .map none => some .nilm
    | .nilFunc => some .nilf
    | .nilIface => some .nili
    | .func (.func f) a b => if a.isEmpty && b.isEmpty then some (.fn (.func f) [] []) else none
    | .iface t v => (ofVal n v).map (.ifc t)
    | .agg cs => (cs.toList.mapM (ofVal n)).map .agg
    | .tuple cs => (cs.toList.mapM (ofVal n)).map .tup
    | _ => none

variable (P : Program)

def isAggT (t : TypeId) : Option Bool :=
  match P.underlying t with
  | some (.struct _) | some (.array _ _) => some true
  | some _ => some false
  | none => none

def sizeT (t : TypeId) : Option Nat := (P.info? t).map (·.size)
def bytesT (t : TypeId) : Option Nat := (P.info? t).map (·.bytes)
def zeroT (t : TypeId) : Option V := (P.info? t).bind fun i => i.zero.bind (ofVal 20)

/-- The cells of fields, from a place on, up to the end. -/
def kindFs (p : TypeId → Option (List KD)) (size : Nat) : List Field → Nat → Option (List KD)
  | [], k => if Nat.beq k size then some [] else none
  | f :: fs, k => if Nat.beq f.offset k && f.name != "_" then
      match p f.type with
      | some a => match kindFs p size fs (k + P.cellsOf f.type) with
        | some b => some (a ++ b)
        | none => none
      | none => none
    else none

def kindA (ks : List KD) : Nat → List KD
  | 0 => []
  | n + 1 => ks ++ kindA ks n

/-- The cells of a bool, a number, a string, and of structs and arrays of these whose cells follow one another. -/
def kindT : Nat → TypeId → Option (List KD)
  | 0, _ => none
  | n + 1, t => match P.underlying t with
    | some .bool => if Nat.beq (P.cellsOf t) 1 then some [.b] else none
    | some (.int _) => if Nat.beq (P.cellsOf t) 1 then some [.i] else none
    | some .string => if Nat.beq (P.cellsOf t) 1 then some [.s] else none
    | some (.struct fs) => if P.stoodInHeld t then none else kindFs P (kindT n) (P.cellsOf t) fs.toList 0
    | some (.array len e) => match kindT n e with
      | some ks => if Nat.beq (P.cellsOf t) (len * P.cellsOf e) then some (kindA ks len) else none
      | none => none
    | _ => none

/-- Where the slots of a function lie. -/
structure Env where
  vars : List Nat
  sites : List Nat
  nt : Nat
  deriving Inhabited

def idxOf (x : Nat) : List Nat → Nat → Option Nat
  | [], _ => none
  | y :: ys, i => if Nat.beq x y then some i else idxOf x ys (i + 1)

def Env.site (E : Env) (t : Tmp) : Option Nat := idxOf t E.sites 0

/-- A slot, behind the operations whose slots are 'dsts' (the last first). -/
def Env.src (E : Env) (dsts : List (Option Tmp)) (t : Tmp) : Option Src :=
  match E.site t with
  | some s => some (.box s)
  | none => go dsts 0
where
  go : List (Option Tmp) → Nat → Option Src
    | [], _ => (idxOf t E.vars 0).map .var
    | some d :: ds, i => if Nat.beq d t then some (.loc i) else go ds (i + 1)
    | none :: ds, i => go ds (i + 1)

def opd (E : Env) (dsts : List (Option Tmp)) : Operand → Option Src
  | .tmp t => E.src dsts t
  | .const v => (ofVal 20 v).map .cst
  | .global g => if Nat.blt g P.globals.size then some (.glob g) else none
  | .func f => some (.fn f)

def compParts (E : Env) (dsts : List (Option Tmp)) (pl : Nat → Option (Nat × Nat)) : List (Nat × Operand) → Option (List (Nat × Nat × Src))
  | [] => some []
  | (i, x) :: r => do
    let (a, b) ← pl i
    let s ← opd P E dsts x
    let r ← compParts E dsts pl r
    pure ((a, b, s) :: r)

def optOpd (E : Env) (dsts : List (Option Tmp)) : Option Operand → Option (Option Src)
  | none => some none
  | some x => (opd P E dsts x).map some

/-- The equality of a map's keys. -/
def keyEq (t : TypeId) : Option Eq :=
  match P.underlying t with
  | some .bool | some (.int _) | some .string => (kindT P 10 t).map .plain
  | _ => none

def eqKind (t : TypeId) (x y : Operand) : Option (Option Eq) :=
  match P.underlying t with
  | some (.int _) | some .string => some none
  | some .bool => (kindT P 10 t).map fun ks => some (.plain ks)
  | some (.struct _) | some (.array _ _) => if P.eqGuardType P.depth t then none else (kindT P 10 t).map fun ks => some (.plainA ks)
  | some (.slice _) => some (some .nilSlice)
  | some (.func _ _ _) => some (some .nilFunc)
  | some (.pointer _) => some (some .nilPtr)
  | some (.map _ _) => some (some .nilMap)
  | some (.interface _) => if Region.isConst x || Region.isConst y then some (some .nilIface) else none
  | _ => none

def invokeAt (name : String) (t : TypeId) : Option (TypeId × FuncId) :=
  match P.info? t with
  | some i => match i.methods.find? (·.name == name) with
    | some m => match m.path.toList, m.func with
      | [], some (f, ptr) => match P.underlying t with
        | some (.pointer _) => if ptr then some (t, f) else none
        | some _ => if ptr then none else some (t, f)
        | none => none
      | _, _ => none
    | none => none
  | none => none

def invokeTable (name : String) : List (TypeId × FuncId) := (List.range P.types.size).filterMap (invokeAt P name)

/-- Where fields lie. -/
def places : List Field → Option (List (Nat × Nat))
  | [] => some []
  | f :: fs => do
    let n ← sizeT P f.type
    let r ← places fs
    pure ((f.offset, n) :: r)

def compBuiltin (E : Env) (dsts : List (Option Tmp)) (b : Builtin) (args : List Operand) (ts : List TypeId) : Option RK :=
  let o := opd P E dsts
  match b, args, ts with
  | .len, [x], [t] => match P.underlying t with
    | some (.slice _) => (o x).map fun s => .p (.lenOf s)
    | some .string => (o x).map fun s => .p (.lenStr s)
    | some (.array n _) => some (.p (.lenC n))
    | some (.pointer a) => match P.underlying a with | some (.array n _) => some (.p (.lenC n)) | _ => none
    | some (.map _ _) => (o x).map fun s => .p (.lenM s)
    | _ => none
  | .cap, [x], [t] => match P.underlying t with
    | some (.slice _) => (o x).map fun s => .p (.capOf s)
    | _ => none
  | .append, [s, x], [t, u] => match P.underlying t, P.underlying u with
    | some (.slice e), some (.int _) => do
      let s ← o s
      let x ← o x
      let z ← zeroT P e
      let n ← sizeT P e
      if z.cells.length ≠ n then none
      pure (.e (.appendZ (← bytesT P e) n z.cells s x))
    | some (.slice e), some _ => do
      let s ← o s
      let x ← o x
      let z ← zeroT P e
      let n ← sizeT P e
      if z.cells.length ≠ n then none
      pure (.e (.append (← bytesT P e) n s x))
    | _, _ => none
  | .min, x :: xs, _ => do pure (.p (.minmax false (← o x) (← xs.mapM o)))
  | .max, x :: xs, _ => do pure (.p (.minmax true (← o x) (← xs.mapM o)))
  | _, _, _ => none

def compOp (E : Env) (dsts : List (Option Tmp)) (op : Oper) : Option RK :=
  let o := opd P E dsts
  let site : Site := op.dst.bind E.site
  match op.op with
  | .move x | .assign x => (o x).map fun s => .p (.mv s)
  | .pick c a b => do pure (.p (.pick (← o c) (← o a) (← o b)))
  | .alloc t => do pure (.e (.alloc site (← zeroT P t).cells))
  | .box _ x => do pure (.e (.boxv site (← o x)))
  | .build t parts => match P.underlying t with
    | some (.struct fs) => do
      let z ← zeroT P t
      let pls ← places P fs.toList
      let ps ← compParts P E dsts (fun i => pls[i]?) parts.toList
      pure (.p (.bld z.cells ps))
    | some (.array _ e) => do
      let z ← zeroT P t
      let n ← sizeT P e
      let ps ← compParts P E dsts (fun i => some (i * n, n)) parts.toList
      pure (.p (.bld z.cells ps))
    | _ => none
  | .buildSlice t len parts => match P.underlying t with
    | some (.slice e) => do
      let z ← zeroT P e
      let n ← sizeT P e
      if len * n > 16777216 || n = 0 || z.cells.length ≠ n then none
      let ps ← compParts P E dsts (fun i => some (i * n, n)) parts.toList
      pure (.e (.bldSl len (reps len z.cells) ps))
    | _ => none
  | .load t a => do if ← isAggT P t then pure (.p (.ldA (← sizeT P t) (← o a))) else pure (.p (.ld (← o a)))
  | .store t a x => do pure (.e (.st (← sizeT P t) (← o a) (← o x)))
  | .nilCheck x => do pure (.p (.nilCheck (← o x)))
  | .binOp b t x y _ => match b with
    | .eql => do
      match ← eqKind P t x y with
      | none => pure (.p (.arith .eql (← o x) (← o y)))
      | some e => pure (.p (.eq false e (← o x) (← o y)))
    | .neq => do
      match ← eqKind P t x y with
      | none => pure (.p (.arith .neq (← o x) (← o y)))
      | some e => pure (.p (.eq true e (← o x) (← o y)))
    | b => do pure (.p (.arith b (← o x) (← o y)))
  | .unOp u _ x => match u with
    | .neg => do pure (.p (.neg (← o x)))
    | .not => do pure (.p (.not (← o x)))
    | .xor => do pure (.p (.inv (← o x)))
    | .plus => none
  | .convert s d x => match P.underlying s, P.underlying d with
    | some (.int _), some (.int k) => do pure (.p (.conv k (← o x)))
    | some .string, some .string => do pure (.p (.cpStr (← o x)))
    | _, _ => none
  | .makeInterface t x => match P.underlying t with
    | some (.interface _) => none
    | some _ => do pure (.p (.mkIfc t (← o x)))
    | none => none
  | .makeFunc f a b => do pure (.p (.mkFn f (← a.toList.mapM o) (← b.toList.mapM o)))
  | .makeMap _ none => some (.e .mkMap)
  | .makeSlice t l c => match P.underlying t with
    | some (.slice e) => do
      let z ← zeroT P e
      let n ← sizeT P e
      if z.cells.length ≠ n then none
      pure (.e (.mkSl (← bytesT P e) n z.cells (← o l) (← o c)))
    | _ => none
  | .slice t x lo hi mx => match P.underlying t with
    | some (.array n e) => do pure (.p (.slArr n (← sizeT P e) (← o x) (← optOpd P E dsts lo) (← optOpd P E dsts hi) (← optOpd P E dsts mx)))
    | some (.slice e) => do pure (.p (.sl (← sizeT P e) (← o x) (← optOpd P E dsts lo) (← optOpd P E dsts hi) (← optOpd P E dsts mx)))
    | some .string => if mx.isSome then none else do pure (.p (.slStr (← o x) (← optOpd P E dsts lo) (← optOpd P E dsts hi)))
    | _ => none
  | .fieldAddr t x f => match P.underlying t with
    | some (.struct fs) => do
      let f ← fs[f]?
      if P.cellsOf f.type = 0 then none
      pure (.p (.fieldAddr f.offset (← o x)))
    | _ => none
  | .field t x f => match P.underlying t with
    | some (.struct fs) => do
      let f ← fs[f]?
      if ← isAggT P f.type then pure (.p (.fieldA f.offset (P.cellsOf f.type) (← o x))) else pure (.p (.field f.offset (← o x)))
    | _ => none
  | .indexAddr t x i => match P.underlying t with
    | some (.array n e) => do pure (.p (.idxArr n (← sizeT P e) (← o x) (← o i)))
    | some (.slice e) => do pure (.p (.idxSl (← sizeT P e) (← o x) (← o i)))
    | _ => none
  | .index t x i => match P.underlying t with
    | some (.array n e) => do
      if ← isAggT P e then pure (.p (.elemA n (← sizeT P e) (← o x) (← o i)))
      else if (← sizeT P e) = 1 then pure (.p (.elem n (← o x) (← o i))) else none
    | some .string => do pure (.p (.byteAt (← o x) (← o i)))
    | _ => none
  | .lookup t x i ok => match P.underlying t with
    | some (.map k e) => do pure (.p (.lookup ok (← zeroT P e) (← keyEq P k) (← o x) (← o i)))
    | _ => none
  | .mapUpdate t m k v | .insert t m k v => match P.underlying t with
    | some (.map kt _) => do pure (.e (.update (← keyEq P kt) (← o m) (← o k) (← o v)))
    | _ => none
  | .extract t i => do pure (.p (.extract i (← o t)))
  | .call c => match c.callee with
    | .builtin b => compBuiltin P E dsts b c.args.toList c.argTypes.toList
    | .value f => do pure (.c (.fnv (← o f) (← c.args.toList.mapM o)))
    | .invoke r m => do pure (.c (.inv (invokeTable P m) (← o r) (← c.args.toList.mapM o)))
  | _ => none

def siteK : RK → Site
  | .e q => siteOf q
  | _ => none

/-- An operation's slot: within the frame; a box's slot is written by what makes the box alone. -/
def dstOk (E : Env) (o : Oper) (k : RK) : Bool :=
  (match o.dst with
  | none => true
  | some d => Nat.blt d E.nt) &&
  (match siteK k, o.dst.bind E.site with
  | none, none => true
  | some a, some b => Nat.beq a b
  | _, _ => false)

/-- The operations of a region, in the order of the text. -/
def compOps (E : Env) (ops : Array Oper) : List Oper → List (Option Tmp) → Option (List ROp × List (Option Tmp))
  | [], dsts => some ([], dsts)
  | o :: os, dsts => do
    let k := (compOp P E dsts o).getD (.p .fail)
    if !(dstOk E o k) then none
    let g ← match o.guard with
      | none => pure none
      | some (j, b) => do
        let t ← (ops[j]?).bind (·.dst)
        let s ← E.src dsts t
        pure (some (s, b))
    let (r, d) ← compOps E ops os (o.dst :: dsts)
    pure (⟨g, k⟩ :: r, d)

/-- What a region leaves in the variables. -/
def compUpd (E : Env) (dsts : List (Option Tmp)) : List Nat → Nat → List (Nat × Src)
  | [], _ => []
  | t :: ts, i => match E.src dsts t with
    | some (.loc k) => (i, .loc k) :: compUpd E dsts ts (i + 1)
    | _ => compUpd E dsts ts (i + 1)

def compParams (E : Env) : List Tmp → Option (List (Option Nat))
  | [] => some []
  | t :: ts => do
    if (E.site t).isSome || !(Nat.blt t E.nt) then none
    let r ← compParams E ts
    pure (idxOf t E.vars 0 :: r)

/-! ### A region that draws its order -/

def optSrcs : Option Src → List Src
  | none => []
  | some s => [s]

def partSrcs : List (Nat × Nat × Src) → List Src
  | [] => []
  | (_, _, s) :: r => s :: partSrcs r

/-- What an operation looks at. -/
def POp.srcs : POp → List Src
  | .fail => []
  | .mv x => [x]
  | .pick c a b => [c, a, b]
  | .bld _ parts => partSrcs parts
  | .ldA _ a => [a]
  | .ld a => [a]
  | .nilCheck x => [x]
  | .arith _ x y => [x, y]
  | .eq _ _ x y => [x, y]
  | .neg x => [x]
  | .not x => [x]
  | .inv x => [x]
  | .conv _ x => [x]
  | .mkIfc _ x => [x]
  | .mkFn _ a b => a ++ b
  | .fieldAddr _ x => [x]
  | .fieldA _ _ x => [x]
  | .field _ x => [x]
  | .idxArr _ _ x i => [x, i]
  | .idxSl _ x i => [x, i]
  | .elemA _ _ x i => [x, i]
  | .elem _ x i => [x, i]
  | .byteAt x i => [x, i]
  | .slArr _ _ x lo hi mx => x :: (optSrcs lo ++ optSrcs hi ++ optSrcs mx)
  | .sl _ x lo hi mx => x :: (optSrcs lo ++ optSrcs hi ++ optSrcs mx)
  | .slStr x lo hi => x :: (optSrcs lo ++ optSrcs hi)
  | .lookup _ _ _ m k => [m, k]
  | .extract _ x => [x]
  | .lenOf x => [x]
  | .lenStr x => [x]
  | .lenC _ => []
  | .lenM x => [x]
  | .capOf x => [x]
  | .cpStr x => [x]
  | .minmax _ x xs => x :: xs

def EOp.srcs : EOp → List Src
  | .alloc _ _ => []
  | .boxv _ x => [x]
  | .bldSl _ _ parts => partSrcs parts
  | .st _ a x => [a, x]
  | .mkMap => []
  | .mkSl _ _ _ l c => [l, c]
  | .append _ _ s x => [s, x]
  | .appendZ _ _ _ s x => [s, x]
  | .copy _ d x => [d, x]
  | .update _ m k x => [m, k, x]

def COp.srcs : COp → List Src
  | .fnv f args => f :: args
  | .inv _ x args => x :: args

def RK.srcs : RK → List Src
  | .p q => q.srcs
  | .e q => q.srcs
  | .c q => q.srcs

def guardSrcs : Option (Src × Bool) → List Src
  | none => []
  | some (s, _) => [s]

def ROp.srcs (r : ROp) : List Src := guardSrcs r.guard ++ r.op.srcs

/-- It reads memory (1), it asks whether a box is there (2), neither (0). -/
def POp.reads : POp → Nat
  | .ldA _ _ => 1
  | .ld _ => 1
  | .lookup .. => 1
  | .lenM _ => 1
  | .nilCheck _ => 2
  | .fieldAddr _ _ => 2
  | .idxArr .. => 2
  | _ => 0

def isSt : RK → Bool
  | .e (.st ..) => true
  | .e (.copy ..) => true
  | _ => false

/-- Must the one be tried again behind the other? -/
def mustTry (c r : RK) : Bool :=
  match r with
  | .p q => Nat.beq q.reads 1 || (Nat.beq q.reads 2 && isSt c)
  | _ => false

def onMask (o : Oper) : Nat := o.after.toList.foldl (fun b e => if Region.binds .any e then b ||| (1 <<< e.on) else b) 0

/-- All that comes before an operation: of the edges of 'after', with what comes before these. -/
def upMask (B : List Nat) (o : Oper) : Nat := o.after.toList.foldl (fun b e => if Region.binds .any e then b ||| (1 <<< e.on) ||| B.getD e.on 0 else b) 0

def bOf (acc : List Nat) (i : Nat) (o : Oper) : Nat := o.after.toList.foldl (fun b e => if Region.binds .any e then b ||| (1 <<< e.on) ||| (if Nat.blt e.on i then acc.getD (i - 1 - e.on) 0 else 0) else b) 0

def closB : List Oper → List Nat → Nat → List Nat
  | [], acc, _ => acc.reverse
  | o :: os, acc, i => closB os (bOf acc i o :: acc) (i + 1)

def sub (a b : Nat) : Bool := Nat.beq (a &&& b) a

def closOK (B : List Nat) : List Oper → List Nat → Bool
  | [], [] => true
  | o :: os, b :: bs => sub b (upMask B o) && closOK B os bs
  | _, _ => false

/-- Edges lead to operations before. -/
def downOK : List Oper → Nat → Bool
  | [], _ => true
  | o :: os, i => o.after.toList.all (fun e => !(Region.binds .any e) || Nat.blt e.on i) && downOK os (i + 1)

def has (b i : Nat) : Bool := Nat.testBit b i

def heavy (o : Oper) : Bool := match o.op with
  | .alloc _ | .box .. | .buildSlice .. | .store .. | .makeMap .. | .makeSlice .. | .mapUpdate .. | .insert .. => true
  | .call c => match c.callee with
    | .builtin b => match b with | .len | .cap | .min | .max => false | _ => true
    | _ => true
  | _ => false

def mayFloat (o : Oper) : Bool := match o.op with
  | .alloc _ | .buildSlice .. => true
  | _ => false

/-- The makers that float: those of a box, and those that a heavy operation is not ordered with. -/
def floatsOf (E : Env) (B : List Nat) (ops : List Oper) : List Nat :=
  let l := ops.zipIdx
  let hv := l.filterMap fun (o, i) => if heavy o then some i else none
  l.filterMap fun (o, i) =>
    if (o.dst.bind E.site).isSome then some i else
    if mayFloat o && hv.any (fun j => !(Nat.beq i j) && !(has (B.getD i 0) j) && !(has (B.getD j 0) i)) then some i else none

def maskOf (l : List Nat) : Nat := l.foldl (fun b i => b ||| (1 <<< i)) 0

/-- The first operation that is ready and not heavy; none: the first that is ready. -/
def pick1 (ops : Array Oper) (D : List Nat) (F S : Nat) : List Nat → Option Nat → Option Nat
  | [], r => r
  | i :: is, r => if sub (D.getD i 0) S then (if has F i || !(match ops[i]? with | some o => heavy o | none => false) then some i else pick1 ops D F S is (r.or (some i))) else pick1 ops D F S is r

def orderOf (ops : Array Oper) (D : List Nat) (F : Nat) : Nat → Nat → List Nat → List Nat
  | 0, _, _ => []
  | n + 1, S, l => match pick1 ops D F S l none with
    | some i => i :: orderOf ops D F n (S ||| (1 <<< i)) (l.filter fun j => !(Nat.beq j i))
    | none => []

/-- What must be tried again behind a heavy operation: of those before, the last first. -/
def retry (B : Nat) (c : RK) : List (Nat × ROp) → Nat → List (Nat × ROp)
  | [], _ => []
  | (i, r) :: rs, k => if mustTry c r.op && !(has B i) then (k, r) :: retry B c rs (k + 1) else retry B c rs (k + 1)

def isP : RK → Bool | .p _ => true | _ => false

def noSite : RK → Bool
  | .e q => (siteOf q).isNone
  | _ => true

/-- Its own slots and variables come before. -/
def srcOK (B : Nat) (prev : List (Nat × ROp)) : List Src → Bool
  | [] => true
  | .loc k :: ss => (match prev[k]? with | some (i, _) => has B i | none => true) && srcOK B prev ss
  | _ :: ss => srcOK B prev ss

/-- The operations of a part, in their order. 'prev': those before, the last first; 'C': the heavy ones before. -/
def segOf (Bs : List Nat) (F : Nat) (canF : Bool) : List Nat → List ROp → List (Nat × ROp) → Nat → Option (List DOp)
  | [], [], _, _ => some []
  | i :: is, r :: rs, prev, C =>
    let B := Bs.getD i 0
    if has F i then
      if !canF || r.guard.isSome then none else
      match r.op with
      | .e (.alloc _ _) | .e (.bldSl _ _ _) => if !(srcOK B prev r.srcs) then none else (segOf Bs F canF is rs ((i, r) :: prev) C).map fun l => ⟨r, true, []⟩ :: l
      | _ => none
    else if sub C B && noSite r.op && srcOK B prev r.srcs then
      match segOf Bs F canF is rs ((i, r) :: prev) (if isP r.op then C else C ||| (1 <<< i)) with
      | some l => some (⟨r, false, if isP r.op then [] else retry B r.op prev 0⟩ :: l)
      | none => none
    else none
  | _, _, _, _ => none

/-- The makers that floated, by their places behind the part: the first first. -/
def regsOf : List DOp → List (Nat × EOp)
  | [] => []
  | d :: ds => if d.flo then (match d.o.op with | .e q => (ds.length, q) :: regsOf ds | _ => regsOf ds) else regsOf ds

def dropsOf : List (Nat × EOp) → List Nat
  | [] => []
  | (_, q) :: r => match siteOf q with | some s => s :: dropsOf r | none => dropsOf r

/-- A variable that an operation of the part writes: whoever looks at what it was comes before. -/
def varOK (E : Env) (Bs : List Nat) (ops : Array Oper) (idx : List Nat) (R : List ROp) : Bool :=
  idx.all fun j => match (ops[j]?).bind (·.dst) with
    | none => true
    | some t => match idxOf t E.vars 0 with
      | none => true
      | some v => (idx.zip R).all fun (i, r) => Nat.beq i j || has (Bs.getD j 0) i || r.srcs.all fun | .var w => !(Nat.beq v w) | _ => true

def dstsDiffer : List (Option Tmp) → Bool
  | [] => true
  | none :: ds => dstsDiffer ds
  | some t :: ds => ds.all (fun | some u => !(Nat.beq t u) | none => true) && dstsDiffer ds

def getOps (ops : Array Oper) : List Nat → Option (List Oper)
  | [] => some []
  | i :: is => match ops[i]? with
    | some o => (getOps ops is).map (o :: ·)
    | none => none

def noDup : List Nat → Bool
  | [] => true
  | i :: is => is.all (fun j => !(Nat.beq i j)) && noDup is

def isIn (i : Nat) : List Nat → Bool
  | [] => false
  | j :: js => Nat.beq i j || isIn i js

def compDraw (E : Env) (ops : Array Oper) : Option IC :=
  let l := ops.toList
  let n := l.length
  let Bs := closB l [] 0
  if !(closOK Bs l Bs && downOK l 0) then none else
  let F := maskOf (floatsOf E Bs l)
  let all := List.range n
  let fr := all.filter fun i => Nat.beq (Bs.getD i 0 &&& F) 0
  let tl := all.filter fun i => !(Nat.beq (Bs.getD i 0 &&& F) 0)
  let D := l.map onMask
  let fr := orderOf ops D F n 0 fr
  let tl := orderOf ops D F n (maskOf fr) tl
  let idx := fr ++ tl
  if !(all.all (fun i => isIn i idx) && noDup idx) then none else
  let FM := maskOf fr
  if !(tl.all fun i => sub FM (Bs.getD i 0)) then none else
  match getOps ops idx with
  | none => none
  | some os => match compOps P E ops os [] with
    | none => none
    | some (R, d) =>
      if !(dstsDiffer d && varOK E Bs ops fr (R.take fr.length) && varOK E Bs ops tl (R.drop fr.length)) then none else
      match segOf Bs F true fr (R.take fr.length) [] 0, segOf Bs F false tl (R.drop fr.length) [] 0 with
      | some f, some t => some (.draw (dropsOf (regsOf f)) f (regsOf f) t (compUpd E d E.vars 0))
      | _, _ => none

def compC (E : Env) : Code → Option IC
  | .skip | .label _ => some .skip
  | .region _ ops false => do
    let (r, d) ← compOps P E ops ops.toList []
    pure (.region r (compUpd E d E.vars 0))
  | .region _ ops true => compDraw P E ops
  | .seq a b => do pure (.seq (← compC E a) (← compC E b))
  | .cond c a b => do pure (.cond (← opd P E [] c) (← compC E a) (← compC E b))
  | .block i c => do pure (.block i (← compC E c))
  | .loop c => do pure (.loop (← compC E c))
  | .scope c => compC E c
  | .rangeFunc f ps a b => do pure (.range (← opd P E [] f) (← compParams E ps.toList) (← compC E a) (← compC E b))
  | .exit i => some (.exit i)
  | .ret => some .ret
  | _ => none

def compRes (E : Env) : List ResultVar → Option (List RSrc)
  | [] => some []
  | .tmp t :: r => do
    if (E.site t).isSome then none
    let i ← idxOf t E.vars 0
    pure (.var i :: (← compRes E r))
  | .cell t ty :: r => do
    let a ← isAggT P ty
    let n ← sizeT P ty
    match E.site t with
    | some s => pure (.box s a n :: (← compRes E r))
    | none => do
      let i ← idxOf t E.vars 0
      pure (.cell i a n :: (← compRes E r))

def compF (E : Env) (fn : Func) : Option IFun := do
  if fn.name == "runtime.NumGoroutine" || Nat.blt fn.ntmps E.nt then none
  let c ← fn.body
  let b ← compC P E c
  let r ← compRes P E fn.results.toList
  pure ⟨E.vars, r, b⟩

/-! ### Finding the variables and the boxes (nothing is proved of this) -/

def tmpsOf (l : List Operand) : List Tmp := l.filterMap fun | .tmp t => some t | _ => none

def addNew (x : Nat) (l : List Nat) : List Nat := if l.contains x then l else l ++ [x]

def exposedOps (ops : Array Oper) : List Oper → List Nat → List Nat → List Nat
  | [], _, acc => acc
  | o :: os, def_, acc =>
    let us := tmpsOf o.op.operands.toList ++ (match o.guard with | some (j, _) => ((ops[j]?).bind (·.dst)).toList | none => [])
    let acc := us.foldl (fun acc t => if def_.contains t then acc else addNew t acc) acc
    exposedOps ops os (o.dst.toList ++ def_) acc

def exposed : Code → List Nat → List Nat
  | .region _ ops _, acc => exposedOps ops ops.toList [] acc
  | .seq a b, acc => exposed b (exposed a acc)
  | .cond c a b, acc => exposed b (exposed a ((tmpsOf [c]).foldl (fun acc t => addNew t acc) acc))
  | .block _ c, acc => exposed c acc
  | .loop c, acc => exposed c acc
  | .scope c, acc => exposed c acc
  | .rangeFunc f _ a b, acc => exposed b (exposed a ((tmpsOf [f]).foldl (fun acc t => addNew t acc) acc))
  | _, acc => acc

/-- The regions, each with the path of the ranges that hold it. -/
def regionsOf : Code → Nat → List (Nat × Array Oper) × Nat
  | .region _ ops _, n => ([(0, ops)], n)
  | .seq a b, n => let (x, n) := regionsOf a n; let (y, n) := regionsOf b n; (x ++ y, n)
  | .cond _ a b, n => let (x, n) := regionsOf a n; let (y, n) := regionsOf b n; (x ++ y, n)
  | .block _ c, n => regionsOf c n
  | .loop c, n => regionsOf c n
  | .scope c, n => regionsOf c n
  | .rangeFunc _ _ a b, n => let me := n + 1; let (x, n) := regionsOf a me; let (y, n) := regionsOf b n; ((x ++ y).map fun (s, o) => (if s = 0 then me else s, o), n)
  | _, n => ([], n)

def sitesOf (fn : Func) : List Nat :=
  match fn.body with
  | none => []
  | some c =>
    let rs := (regionsOf c 0).1
    let all : List (Nat × Oper) := rs.flatMap fun (s, ops) => ops.toList.map fun o => (s, o)
    let cands := all.foldl (fun acc (_, o) => match o.op, o.dst with | .alloc _, some d => addNew d acc | .box _ _, some d => addNew d acc | _, _ => acc) []
    -- derived addresses: (slot, site)
    let step (der : List (Nat × Nat)) : List (Nat × Nat) := all.foldl (fun der (_, o) =>
      match o.op, o.dst with
      | .fieldAddr _ (.tmp x) _, some d | .indexAddr _ (.tmp x) _, some d => match der.find? (·.1 == x) with
        | some (_, s) => if der.contains (d, s) then der else (d, s) :: der
        | none => der
      | _, _ => der) der
    let der := step (step (cands.map fun t => (t, t)))
    let bad1 := all.foldl (fun acc (_, o) =>
      let us := match o.op with
        | .load _ _ => []
        | .store _ _ v => tmpsOf [v]
        | .fieldAddr _ _ _ => []
        | .indexAddr t x i => (match P.underlying t with | some (.array _ _) => [] | _ => tmpsOf [x]) ++ tmpsOf [i]
        | op => tmpsOf op.operands.toList
      us.foldl (fun acc t => (der.filter (·.1 == t)).foldl (fun acc (_, s) => addNew s acc) acc) acc) []
    let bad2 := all.foldl (fun acc (_, o) => match o.op, o.dst with
      | .alloc _, _ | .box _ _, _ => acc
      | _, some d => if cands.contains d then addNew d acc else acc
      | _, _ => acc) bad1
    let bad3 := fn.results.foldl (fun acc r => match r with | .tmp t => if cands.contains t then addNew t acc else acc | _ => acc) bad2
    -- derived slots that live beyond their region
    let exp := exposed c []
    let bad4 := der.foldl (fun acc (d, s) => if d != s && exp.contains d then addNew s acc else acc) bad3
    -- a site is met in one scope alone
    let mention (t : Nat) : List Nat := (all.filterMap fun (s, o) => if o.dst == some t || (tmpsOf o.op.operands.toList).contains t then some s else none).eraseDups
    let resT := fn.results.toList.filterMap fun | .cell t _ => some t | _ => none
    cands.filter fun t => !bad4.contains t && (mention t).length ≤ 1 && (!resT.contains t || mention t == [0] || mention t == [])

def envOf (fn : Func) : Env :=
  let sites := sitesOf P fn
  let exp := (fn.body.map (exposed · [])).getD []
  let exp := fn.results.foldl (fun acc r => match r with | .tmp t => addNew t acc | .cell t _ => addNew t acc) exp
  ⟨exp.filter fun t => !sites.contains t, sites, fn.ntmps⟩

end Go.AI
