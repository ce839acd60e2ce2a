/- The plain machine, part 1. -/
import GoSem.Core.Code
import GoSem.Core.View
import Derived.RangeFuncIn
import Derived.Laws.Cells
import Derived.Laws.World
import Derived.Laws.Rows
import Derived.DeepKeys
import Derived.DeepKeys3
set_option linter.all false
namespace Go.Pm

inductive SK where
  | nil
  | full
  | shared
  deriving DecidableEq

inductive Fk where
  | fn (id : Nat)
  | yield (l : Nat)
  deriving DecidableEq

structure KT where
  agg : Bool
  tags : List Nat

inductive C where
  | int (k : IntKind) (n : Int)
  | bool (b : Bool)
  | str (s : ByteArray)
  | sl (k : SK) (es : Nat) (l : List (List C))
  | own (es : Nat) (l : List (List C))
  | imap (ka va : Bool) (l : List (List C × List C))
  | eptr (cs : List C) (off : Nat)
  | fn (f : Fk) (shape : List (Option Nat)) (first cap : List C)
  | nilf
  | nilp
  | nili
  | ptr (r off : Nat)
  | map (r : Nat)
  | msl (r off len cap es : Nat)
  | stamp (r i : Nat)
  | top

inductive V where
  | sc (c : C)
  | agg (cs : List C)
  | tup (vs : List V)

inductive Rand where
  | t (i : Nat)
  | tk (i : Nat)
  | k (v : V)
  | f (id : Nat)
  | g (id : Nat)

inductive Op where
  | mv (x : Rand)
  | pick (c a b : Rand)
  | alloc (a : Nat) (z : List C)
  | box (a : Nat) (x : Rand)
  | build (z : List C) (ps : List (Nat × Nat × Rand))
  | bslice (es n : Nat) (z : List C) (ps : List (Nat × Rand))
  | bmsl (a es n : Nat) (z : List C) (ps : List (Nat × Rand))
  | load (n : Option Nat) (x : Rand)
  | loadT (x : Rand)
  | store (n : Nat) (x v : Rand)
  | bin (op : BinOp) (x y : Rand)
  | eqf (neg : Bool) (ty : KT) (x y : Rand)
  | isnil (kd : Nat) (neg : Bool) (x : Rand)
  | un (op : UnOp) (x : Rand)
  | conv (k : IntKind) (x : Rand)
  | mkf (id : Nat) (shape : List (Option Nat)) (first cap : List Rand)
  | mkmap (a : Nat) (ka va : Bool)
  | slice (es : Nat) (x : Rand) (lo hi mx : Option Rand)
  | slArr (n es : Nat) (x : Rand) (lo hi mx : Option Rand)
  | slStr (x : Rand) (lo hi : Option Rand)
  | faddr (off : Nat) (x : Rand)
  | field (off : Nat) (n : Option Nat) (x : Rand)
  | iaddr (es : Nat) (x i : Rand)
  | iarr (len es : Nat) (x i : Rand)
  | index (len es : Nat) (n : Option Nat) (x i : Rand)
  | istr (x i : Rand)
  | lookup (ok : Bool) (ty : KT) (z : V) (m key : Rand)
  | ment (ty : KT) (z : V) (m key : Rand)
  | estore (m s v : Rand)
  | mupd (ty : KT) (m key v : Rand)
  | ext (x : Rand) (i : Nat)
  | len (k : Nat) (x : Rand)
  | lenArr (n : Nat)
  | min (x : Rand) (xs : List Rand)
  | max (x : Rand) (xs : List Rand)
  | append (es : Nat) (x y : Rand)
  | appendM (a es : Nat) (x y : Rand)
  | nilchk (x : Rand)
  | call (pure : Bool) (f : Rand) (args : List Rand)
  | late (o : Op)

structure Oper where
  ix : Nat := 0
  dst : Option Nat := none
  op : Op
  guard : Option (Nat × Bool) := none
  conf : List Nat := []

inductive AC where
  | skip
  | region (nal : Nat) (ops : List Oper) (draw : Bool) (keep : List Nat)
  | seq (a b : AC)
  | cond (c : Rand) (a b : AC)
  | block (id : Nat) (body : AC)
  | loop (keep : List Nat) (body : AC)
  | rfunc (f : Rand) (params : List Nat) (assign body : AC)
  | exit (id : Nat)
  | scope (body : AC)
  | ret
  | frz (i : Nat) (body : AC)
  | frzc (i : Nat) (body : AC)

inductive Ex where
  | norm
  | exit (id : Nat)
  | ret
  deriving DecidableEq

inductive LS where
  | ready
  | busy
  | done
  deriving DecidableEq

inductive Obj where
  | dead
  | var (cs : List C)
  | free
  | map (ka va : Bool) (l : List (List C × List C)) (ph : Option (List C × List C))
  | loop (st : LS) (pend : Option Ex) (t : List (Nat × V)) (ps : List Nat) (assign body : AC)

structure St where
  t : List (Nat × V)
  h : List Obj

structure Fn where
  np : Nat
  nt : Nat
  res : List (Nat × Option (Option Nat))
  body : AC
  opn : Bool

structure Env where
  fn : Nat → Option Fn
  prim : Nat → Option (List V → Option V)
  glob : Nat → List C

/-! ### Small words -/

def unown : C → C
  | .own es l => .sl .shared es l
  | c => c

def V.unown : V → V
  | .sc c => .sc (Pm.unown c)
  | v => v

def V.cells : V → List C
  | .sc .top => []
  | .sc c => [c]
  | .agg cs => cs
  | .tup _ => []

def get : List (Nat × V) → Nat → V
  | [], _ => .sc .top
  | (j, v) :: t, i => if j = i then v else get t i

def unowned (t : List (Nat × V)) : List (Nat × V) := t.map fun p => (p.1, p.2.unown)

def restrict (keep : List Nat) (t : List (Nat × V)) : List (Nat × V) := keep.map fun i => (i, get t i)

mutual
def C.under (n : Nat) : C → Bool
  | .ptr r _ => decide (r < n)
  | .map r => decide (r < n)
  | .msl r _ _ _ _ => decide (r < n)
  | .stamp r _ => decide (r < n)
  | .fn f _ first cap => (match f with | .fn _ => true | .yield l => decide (l < n)) && C.underL n first && C.underL n cap
  | _ => true
def C.underL (n : Nat) : List C → Bool
  | [] => true
  | c :: cs => C.under n c && C.underL n cs
end

mutual
def V.under (n : Nat) : V → Bool
  | .sc c => c.under n
  | .agg cs => C.underL n cs
  | .tup vs => V.underVs n vs
def V.underVs (n : Nat) : List V → Bool
  | [] => true
  | v :: vs => V.under n v && V.underVs n vs
end

def Obj.under (n : Nat) : Obj → Bool
  | .var cs => C.underL n cs
  | .loop _ _ t _ _ _ => t.all fun p => p.2.under n
  | _ => true

mutual
def C.pure : C → Bool
  | .ptr _ _ | .map _ | .msl _ _ _ _ _ | .stamp _ _ | .own _ _ => false
  | .fn f _ first cap => (match f with | .fn _ => true | .yield _ => false) && C.pureL first && C.pureL cap
  | _ => true
def C.pureL : List C → Bool
  | [] => true
  | c :: cs => C.pure c && C.pureL cs
end

def V.pure : V → Bool
  | .sc c => c.pure
  | .agg cs => C.pureL cs
  | .tup _ => false

def cellsAt (cs : List C) (off : Nat) : Nat → Option (List C)
  | 0 => some []
  | n + 1 => match cs[off]? with
    | some c => (cellsAt cs (off + 1) n).map (c :: ·)
    | none => none

def setAll (cs : List C) (off : Nat) : List C → List C
  | [] => cs
  | v :: vs => setAll (cs.set off v) (off + 1) vs

def chunks (cs : List C) (off es : Nat) : Nat → Option (List (List C))
  | 0 => some []
  | n + 1 => match cellsAt cs off es with
    | some c => (chunks cs (off + es) es n).map (c :: ·)
    | none => none

def loadFrom (cs : List C) (off : Nat) : Option Nat → Option V
  | none => (cs[off]?).map fun c => .sc (unown c)
  | some n => (cellsAt cs off n).map fun l => .agg (l.map unown)

def room : Nat := 2147483648

def cellEq : C → C → Option Bool
  | .int k a, .int k' b => if k = k' then some (a == b) else none
  | .bool a, .bool b => some (a == b)
  | .str a, .str b => some (decide (a = b))
  | _, _ => none

def cellsEq : List C → List C → Option Bool
  | [], [] => some true
  | c :: cs, d :: ds => match cellEq c d, cellsEq cs ds with
    | some a, some b => some (a && b)
    | _, _ => none
  | _, _ => none

def tagEq : Nat → C → C → Option Bool
  | 0, .bool a, .bool b => some (a == b)
  | 1, .int k a, .int k' b => if k = k' then some (a == b) else none
  | 2, .str a, .str b => some (a == b)
  | _, _, _ => none

def keyEq : List Nat → List C → List C → Option Bool
  | [], [], [] => some true
  | t :: ts, c :: cs, d :: ds => match tagEq t c d, keyEq ts cs ds with
    | some a, some b => some (a && b)
    | _, _ => none
  | _, _, _ => none

def find (ts : List Nat) (key : List C) : Nat → List (List C × List C) → Option (Option (Nat × List C))
  | _, [] => some none
  | n, e :: es => match keyEq ts key e.1 with
    | some true => some (some (n, e.2))
    | some false => find ts key (n + 1) es
    | none => none

def setAt (i : Nat) (v : List C) (l : List (List C × List C)) : List (List C × List C) :=
  match l[i]? with
  | some e => l.set i (e.1, v)
  | none => l

def ofShape (agg : Bool) (cs : List C) : Option V :=
  if agg then some (.agg cs) else match cs with | [c] => some (.sc c) | _ => none

def V.isAgg : V → Bool
  | .agg _ => true
  | _ => false

def unflat : List (Option Nat) → List C → Option (List V)
  | [], [] => some []
  | none :: sh, c :: cs => (unflat sh cs).map (.sc c :: ·)
  | some n :: sh, cs => if n ≤ cs.length then (unflat sh (cs.drop n)).map (.agg (cs.take n) :: ·) else none
  | _, _ => none

def wrapBits (k : IntKind) (r : BitVec k.bits) : Int := k.wrap r.toNat

def arith (op : BinOp) (k : IntKind) (x y : Int) : Option C :=
  match op with
  | .add => some (.int k (k.wrap (x + y)))
  | .sub => some (.int k (k.wrap (x - y)))
  | .mul => some (.int k (k.wrap (x * y)))
  | .quo => if y = 0 then none else some (.int k (k.wrap (x.tdiv y)))
  | .rem => if y = 0 then none else some (.int k (x.tmod y))
  | .and => some (.int k (wrapBits k (BitVec.ofInt k.bits x &&& BitVec.ofInt k.bits y)))
  | .or => some (.int k (wrapBits k (BitVec.ofInt k.bits x ||| BitVec.ofInt k.bits y)))
  | .xor => some (.int k (wrapBits k (BitVec.ofInt k.bits x ^^^ BitVec.ofInt k.bits y)))
  | .andNot => some (.int k (wrapBits k (BitVec.ofInt k.bits x &&& ~~~ BitVec.ofInt k.bits y)))
  | .eql => some (.bool (x == y))
  | .neq => some (.bool (x != y))
  | .lss => some (.bool (decide (x < y)))
  | .leq => some (.bool (decide (x ≤ y)))
  | .gtr => some (.bool (decide (x > y)))
  | .geq => some (.bool (decide (x ≥ y)))
  | _ => none

def shifted (op : BinOp) (k : IntKind) (x y : Int) : Option C :=
  if y < 0 then none else
  match op with
  | .shl => some (.int k (k.wrap (x * 2 ^ (Nat.min y.toNat k.bits))))
  | .shr => some (.int k (x.fdiv (2 ^ (Nat.min y.toNat k.bits))))
  | _ => none

def strOp (op : BinOp) (x y : ByteArray) : Option C :=
  match op with
  | .add => if x.size + y.size ≤ room then some (.str (x ++ y)) else none
  | .eql => some (.bool (x.toList == y.toList))
  | .neq => some (.bool !(x.toList == y.toList))
  | _ => none

def bin (op : BinOp) : V → V → Option C
  | .sc (.int k x), .sc (.int k' y) =>
    match op with
    | .shl | .shr => shifted op k x y
    | _ => if k = k' then arith op k x y else none
  | .sc (.str x), .sc (.str y) => strOp op x y
  | _, _ => none

def un (op : UnOp) : V → Option C
  | .sc (.int k n) => match op with | .neg => some (.int k (k.wrap (0 - n))) | _ => none
  | .sc (.bool b) => match op with | .not => some (.bool !b) | _ => none
  | _ => none

def minOf (k : IntKind) (x : Int) : List V → Option C
  | [] => some (.int k x)
  | .sc (.int _ y) :: r => minOf k (if y < x then y else x) r
  | _ => none

def maxOf (k : IntKind) (x : Int) : List V → Option C
  | [] => some (.int k x)
  | .sc (.int _ y) :: r => maxOf k (if y > x then y else x) r
  | _ => none

def elems (es : Nat) : V → Option (List (List C))
  | .sc (.sl _ es' l) => if es' = es then some l else none
  | .sc (.own es' l) => if es' = es then some l else none
  | _ => none

def appended (es : Nat) (x y : V) : Option C :=
  match elems es y with
  | none => none
  | some m =>
    match x with
    | .sc (.sl k es' l) =>
      if es' = es ∧ k ≠ .shared ∧ l.length + m.length ≤ room then
        some (match m with | [] => .sl k es l | _ :: _ => .own es (l ++ m))
      else none
    | .sc (.own es' l) => if es' = es ∧ l.length + m.length ≤ room then some (.own es (l ++ m)) else none
    | _ => none

def bound (v : V) (top : Nat) : Option Nat :=
  match v with
  | .sc (.int _ n) => if 0 ≤ n ∧ n ≤ top then some n.toNat else none
  | _ => none

def boundM (len : Nat) (cap : Option Nat) : Option V → Option (Option Nat)
  | some v => (bound v (cap.getD len)).map some
  | none => some cap

def boundH (len : Nat) (m : Option Nat) : Option V → Option Nat
  | some v => bound v (m.getD len)
  | none => some len

def boundL (h : Nat) : Option V → Option Nat
  | some v => bound v h
  | none => some 0

def bounds (len : Nat) (cap : Option Nat) (lo hi mx : Option V) : Option (Nat × Nat × Option Nat) :=
  if mx.isSome && hi.isNone then none else
  match boundM len cap mx with
  | none => none
  | some m => match boundH len m hi with
    | none => none
    | some h => match boundL h lo with
      | none => none
      | some l => if h ≤ len then some (l, h, m) else none

def slKind (k : SK) (ends : Bool) : SK :=
  match k with
  | .nil => .nil
  | _ => if ends then .full else .shared

def capOf (k : SK) (n : Nat) : Option Nat :=
  match k with
  | .shared => none
  | _ => some n

def sliced (es : Nat) (x : V) (lo hi mx : Option V) : Option C :=
  match x with
  | .sc (.sl k es' l) =>
    if es' ≠ es then none else
    match bounds l.length (capOf k l.length) lo hi mx with
    | some (a, b, m) => some (.sl (slKind k (decide (m = some b))) es ((l.take b).drop a))
    | none => none
  | .sc (.own es' l) =>
    if es' ≠ es then none else
    match bounds l.length none lo hi mx with
    | some (a, b, m) => some (.sl (if m = some b then .full else .shared) es ((l.take b).drop a))
    | none => none
  | .sc (.msl r off len cap es') =>
    if es' ≠ es then none else
    match bounds len (if cap = 0 then none else some cap) lo hi mx with
    | some (a, b, some m) => some (.msl r (if m = a then off else off + a * es) (b - a) (m - a) es)
    | some (a, b, none) => if a < len ∨ a = 0 then some (.msl r (off + a * es) (b - a) 0 es) else none
    | none => none
  | _ => none

def slicedArr (n es : Nat) (x : V) (lo hi mx : Option V) : Option C :=
  match x with
  | .sc (.ptr r off) => match bounds n (some n) lo hi mx with
    | some (a, b, m) => some (.msl r (if m.getD n = a then off else off + a * es) (b - a) (m.getD n - a) es)
    | none => none
  | _ => none

def slicedStr (x : V) (lo hi : Option V) : Option C :=
  match x with
  | .sc (.str s) => match bounds s.size (some s.size) lo hi none with
    | some (a, b, _) => some (.str (s.extract a b))
    | none => none
  | _ => none

def nth (l : List (List C)) (i : V) : Option (List C) :=
  match i with
  | .sc (.int _ n) => if 0 ≤ n then l[n.toNat]? else none
  | _ => none

def place (len : Nat) (i : V) : Option Nat :=
  match i with
  | .sc (.int _ n) => if 0 ≤ n ∧ n < len then some n.toNat else none
  | _ => none

def fillCells (z : List C) : List (Nat × Nat × V) → Option (List C)
  | [] => some z
  | (off, n, v) :: r => if v.cells.length = n ∧ 0 < n ∧ off + n ≤ z.length then fillCells (setAll z off v.cells) r else none

def fillElems (es : Nat) (l : List (List C)) : List (Nat × V) → Option (List (List C))
  | [] => some l
  | (i, v) :: r => if v.cells.length = es ∧ i < l.length then fillElems es (l.set i v.cells) r else none

/-! ### What an operation does -/

abbrev Eff := V × List (Nat × Obj)

def rd (Γ : Env) (t : List (Nat × V)) : Rand → V
  | .t i => (get t i).unown
  | .tk i => get t i
  | .k v => v
  | .f id => .sc (.fn (.fn id) [] [] [])
  | .g id => .sc (.eptr (Γ.glob id) 0)

def isFree (h : List Obj) (r : Nat) : Bool :=
  match h[r]? with
  | some .free => true
  | _ => false

def shapes : List V → Option (List (Option Nat))
  | [] => some []
  | .sc .top :: _ => none
  | .sc _ :: vs => (shapes vs).map (none :: ·)
  | .agg cs :: vs => (shapes vs).map (some cs.length :: ·)
  | .tup _ :: _ => none

def proper (agg : Bool) (v : V) : Bool := v.isAgg == agg && (agg || v.cells.length == 1)

def fits (ty : KT) (v : V) : Bool := v.isAgg == ty.agg && v.cells.length == ty.tags.length

def entries (h : List Obj) (ok : Bool) (ty : KT) (z key m : V) : Option (Bool × Bool × List (List C × List C)) :=
  match m with
  | .sc (.map p) => match h[p]? with
    | some (.map ka va l none) => some (ka, va, l)
    | some (.map ka va l (some (k, y))) => if ok then none else match keyEq ty.tags key.cells k with
      | some false => some (ka, va, l)
      | some true => if cellsEq z.cells y = some true then some (ka, va, l) else none
      | none => none
    | _ => none
  | .sc (.imap ka va l) => some (ka, va, l)
  | _ => none

def one (c : Option C) : Option Eff := c.map fun c => (.sc c, [])

def eff (base : Nat) (h : List Obj) (r : Rand → V) : Op → Option Eff
  | .mv x => some (r x, [])
  | .pick c a b => match r c with
    | .sc (.bool true) => some (r a, [])
    | .sc (.bool false) => some (r b, [])
    | _ => none
  | .alloc a z => if isFree h (base + a) ∧ C.pureL z then some (.sc (.ptr (base + a) 0), [(base + a, .var z)]) else none
  | .box a x => if isFree h (base + a) then some (.sc (.ptr (base + a) 0), [(base + a, .var (r x).cells)]) else none
  | .build z ps => (fillCells z (ps.map fun p => (p.1, p.2.1, r p.2.2))).map fun cs => (.agg cs, [])
  | .bslice es n z ps => match fillElems es (List.replicate n z) (ps.map fun p => (p.1, r p.2)) with
    | some l => if z.length = es ∧ l.all C.pureL then some (.sc (.sl .full es l), []) else none
    | none => none
  | .bmsl a es n z ps => match fillElems es (List.replicate n z) (ps.map fun p => (p.1, r p.2)) with
    | some l => if z.length = es ∧ isFree h (base + a) then some (.sc (.msl (base + a) 0 n n es), [(base + a, .var l.flatten)]) else none
    | none => none
  | .load n x => match r x with
    | .sc (.ptr p off) => match h[p]? with
      | some (.var cs) => (loadFrom cs off n).map fun v => (v, [])
      | _ => none
    | .sc (.eptr cs off) => (loadFrom cs off n).map fun v => (v, [])
    | _ => none
  | .loadT x => match r x with
    | .sc (.ptr p off) => match h[p]? with
      | some (.var cs) => match cs[off]? with
        | some c => some (.sc c, [(p, .var (cs.set off (unown c)))])
        | none => none
      | _ => none
    | _ => none
  | .store n x v => match r x with
    | .sc (.ptr p off) => match h[p]? with
      | some (.var cs) =>
        if (r v).cells.length = n ∧ 0 < n ∧ off + n ≤ cs.length then some (.tup [], [(p, .var (setAll cs off (r v).cells))]) else none
      | _ => none
    | _ => none
  | .bin op x y => one (bin op (r x) (r y))
  | .eqf neg ty x y => if (r x).isAgg = ty.agg ∧ (r y).isAgg = ty.agg then (keyEq ty.tags (r x).cells (r y).cells).map fun b => (.sc (.bool (neg ^^ b)), []) else none
  | .isnil kd neg x => match kd, r x with
    | 0, .sc (.sl k _ _) => some (.sc (.bool (neg ^^ decide (k = .nil))), [])
    | 1, .sc .nilf => some (.sc (.bool (!neg)), [])
    | 1, .sc (.fn _ _ _ _) => some (.sc (.bool neg), [])
    | 2, .sc .nilp => some (.sc (.bool (!neg)), [])
    | 2, .sc (.ptr _ _) => some (.sc (.bool neg), [])
    | 2, .sc (.eptr _ _) => some (.sc (.bool neg), [])
    | _, _ => none
  | .un op x => one (un op (r x))
  | .conv k x => match r x with
    | .sc (.int _ n) => some (.sc (.int k (k.wrap n)), [])
    | _ => none
  | .mkf id sh first cap =>
    if shapes (first.map r) = some sh ∧ shapes (cap.map r) = some (cap.map fun _ => none) then
      some (.sc (.fn (.fn id) sh ((first.map r).flatMap V.cells) ((cap.map r).flatMap V.cells)), [])
    else none
  | .mkmap a ka va => if isFree h (base + a) then some (.sc (.map (base + a)), [(base + a, .map ka va [] none)]) else none
  | .slice es x lo hi mx => one (sliced es (r x) (lo.map r) (hi.map r) (mx.map r))
  | .slArr n es x lo hi mx => one (slicedArr n es (r x) (lo.map r) (hi.map r) (mx.map r))
  | .slStr x lo hi => one (slicedStr (r x) (lo.map r) (hi.map r))
  | .faddr off x => match r x with
    | .sc (.ptr p o) => some (.sc (.ptr p (o + off)), [])
    | .sc (.eptr cs o) => some (.sc (.eptr cs (o + off)), [])
    | _ => none
  | .field off n x => match r x with
    | .agg cs => (loadFrom cs off n).map fun v => (v, [])
    | _ => none
  | .iaddr es x i => match r x with
    | .sc (.msl p off len _ es') => if es' ≠ es then none else (place len (r i)).map fun j => (.sc (.ptr p (off + j * es)), [])
    | x => match elems es x with
      | some l => (nth l (r i)).map fun e => (.sc (.eptr e 0), [])
      | none => none
  | .iarr len es x i => match r x, place len (r i) with
    | .sc (.ptr p o), some j => some (.sc (.ptr p (o + j * es)), [])
    | .sc (.eptr cs o), some j => some (.sc (.eptr cs (o + j * es)), [])
    | _, _ => none
  | .index len es n x i => match r x, place len (r i) with
    | .agg cs, some j => (loadFrom cs (j * es) n).map fun v => (v, [])
    | _, _ => none
  | .istr x i => match r x with
    | .sc (.str s) => match place s.size (r i) with
      | some j => (s[j]?).map fun b => (.sc (.int .u8 b.toNat), [])
      | none => none
    | _ => none
  | .lookup ok ty z m key => match entries h ok ty z (r key) (r m) with
    | none => none
    | some (ka, va, l) => if fits ty (r key) = false ∨ ka ≠ ty.agg ∨ z.isAgg ≠ va then none else match find ty.tags (r key).cells 0 l with
      | some (some (_, cs)) => (ofShape va cs).map fun v => (if ok then .tup [v, .sc (.bool true)] else v, [])
      | some none => some (if ok then .tup [z, .sc (.bool false)] else z, [])
      | none => none
  | .ment ty z m key => match r m with
    | .sc (.map p) => match h[p]? with
      | some (.map ka va l none) => if fits ty (r key) = false ∨ ka ≠ ty.agg ∨ proper va z = false then none else match find ty.tags (r key).cells 0 l with
        | some (some (i, _)) => some (.tup [.sc .top, .sc (.stamp p i)], [])
        | some none => if C.pureL (r key).cells ∧ C.pureL z.cells then some (.tup [.sc .top, .sc (.stamp p l.length)], [(p, .map ka va l (some ((r key).cells, z.cells)))]) else none
        | none => none
      | _ => none
    | _ => none
  | .estore m s v => match r m, r s with
    | .sc (.map p), .sc (.stamp q i) => if p ≠ q then none else match h[p]? with
      | some (.map ka va l ph) => if C.pureL (r v).cells ∧ proper va (r v) then
          match ph with
          | none => if i < l.length then some (.tup [], [(p, .map ka va (setAt i (r v).cells l) none)]) else none
          | some (k, _) => if i = l.length then some (.tup [], [(p, .map ka va (l ++ [(k, (r v).cells)]) none)]) else none
        else none
      | _ => none
    | _, _ => none
  | .mupd ty m key v => match r m with
    | .sc (.map p) => match h[p]? with
      | some (.map ka va l none) => if C.pureL (r key).cells ∧ C.pureL (r v).cells ∧ proper va (r v) ∧ fits ty (r key) ∧ ka = ty.agg then
          match find ty.tags (r key).cells 0 l with
          | some (some (i, _)) => some (.tup [], [(p, .map ka va (setAt i (r v).cells l) none)])
          | some none => some (.tup [], [(p, .map ka va (l ++ [((r key).cells, (r v).cells)]) none)])
          | none => none
        else none
      | _ => none
    | _ => none
  | .ext x i => match r x with
    | .tup vs => match vs[i]? with
      | some v => some (v, [])
      | none => none
    | _ => none
  | .len k x => match k, r x with
    | 1, .sc (.sl _ _ l) => some (.sc (.int .i64 l.length), [])
    | 1, .sc (.msl _ _ n _ _) => some (.sc (.int .i64 n), [])
    | 0, .sc (.str s) => some (.sc (.int .i64 s.size), [])
    | 2, .sc (.imap _ _ l) => some (.sc (.int .i64 l.length), [])
    | 2, .sc (.map p) => match h[p]? with
      | some (.map _ _ l none) => some (.sc (.int .i64 l.length), [])
      | _ => none
    | _, _ => none
  | .lenArr n => some (.sc (.int .i64 n), [])
  | .min x xs => match r x with
    | .sc (.int k n) => one (minOf k n (xs.map r))
    | _ => none
  | .max x xs => match r x with
    | .sc (.int k n) => one (maxOf k n (xs.map r))
    | _ => none
  | .append es x y => one (appended es (r x) (r y))
  | .appendM a es x y => match elems es (r y) with
    | none => none
    | some m => match r x with
      | .sc (.sl k es' l) => if es' = es then (match m with
        | [] => some (.sc (.sl k es l), [])
        | _ :: _ => if isFree h (base + a) ∧ k ≠ .shared ∧ l.length + m.length ≤ room then some (.sc (.msl (base + a) 0 (l.length + m.length) 0 es), [(base + a, .var (l ++ m).flatten)]) else none) else none
      | _ => none
  | .nilchk x => match r x with
    | .sc (.ptr p o) => some (.sc (.ptr p o), [])
    | .sc (.eptr cs o) => some (.sc (.eptr cs o), [])
    | .sc (.fn f sh a b) => some (.sc (.fn f sh a b), [])
    | _ => none
  | .call _ _ _ => none
  | .late _ => none

/-! ### Which objects an operation looks at, and whether it writes -/

structure Acc where
  refs : List Nat := []
  w : Bool := false
  all : Bool := false
  kind : Nat := 0
  ty : List Nat := []
  key : List C := []
  z : List C := []

def refsOf : V → List Nat
  | .sc (.ptr p _) => [p]
  | .sc (.map p) => [p]
  | .sc (.msl p _ _ _ _) => [p]
  | _ => []

def offOf : V → List Nat
  | .sc (.ptr _ off) => [off]
  | _ => []

def acc (base : Nat) (r : Rand → V) : Op → Acc
  | .alloc a _ => { refs := [base + a], w := true }
  | .box a _ => { refs := [base + a], w := true }
  | .bmsl a _ _ _ _ => { refs := [base + a], w := true }
  | .mkmap a _ _ => { refs := [base + a], w := true }
  | .appendM a _ _ _ => { refs := [base + a], w := true }
  | .load _ x => { refs := refsOf (r x) }
  | .loadT x => { refs := refsOf (r x), w := true, kind := 3, ty := offOf (r x) }
  | .store _ x _ => { refs := refsOf (r x), w := true }
  | .lookup ok ty z m key => { refs := refsOf (r m), kind := if ok then 0 else 1, ty := ty.tags, key := (r key).cells, z := z.cells }
  | .ment ty z m key => { refs := refsOf (r m), w := true, kind := 2, ty := ty.tags, key := (r key).cells, z := z.cells }
  | .estore m _ _ => { refs := refsOf (r m), w := true }
  | .mupd _ m _ _ => { refs := refsOf (r m), w := true }
  | .len k x => if k = 2 then { refs := refsOf (r x) } else {}
  | .call p _ _ => if p then {} else { w := true, all := true }
  | .late _ => { w := true, all := true }
  | _ => {}

def Acc.free (a b : Acc) : Bool :=
  (!a.w && !b.w) || (a.kind == 1 && b.kind == 2 && a.ty == b.ty && (keyEq a.ty a.key b.key).isSome && cellsEq a.z b.z == some true) ||
  (a.kind == 2 && b.kind == 1 && a.ty == b.ty && (keyEq a.ty b.key a.key).isSome && cellsEq b.z a.z == some true) ||
  (a.kind == 3 && b.kind == 3 && decide (a.ty ≠ b.ty)) ||
  (!a.all && !b.all && a.refs.all fun x => b.refs.all fun y => decide (x ≠ y)) || (!a.all && a.refs.isEmpty && !a.w) || (!b.all && b.refs.isEmpty && !b.w)

def Rand.takes : Rand → List Nat
  | .tk i => [i]
  | _ => []

def Op.takes : Op → List Nat
  | .mv x => x.takes
  | .store _ x v => x.takes ++ v.takes
  | .append _ x y => x.takes ++ y.takes
  | .box _ x => x.takes
  | _ => []

def drop (l : List Nat) (t : List (Nat × V)) : List (Nat × V) := l.foldl (fun t i => (i, (get t i).unown) :: t) t

def setObjs (h : List Obj) (ws : List (Nat × Obj)) : List Obj := ws.foldl (fun h p => h.set p.1 p.2) h

def put1 (dst : Option Nat) (v : V) (t : List (Nat × V)) : List (Nat × V) :=
  match dst with
  | some d => (d, v) :: t
  | none => t

/-! ### Steps, over given answers of calls and of code -/

def target : V → List V → Option (Fk × List V)
  | .sc (.fn (.fn id) sh first cap), args => (unflat sh first).map fun fs => (.fn id, fs ++ args ++ cap.map .sc)
  | .sc (.fn (.yield l) _ _ _), args => some (.yield l, args)
  | _, _ => none

abbrev Calls1 := Fk → List V → List Obj → Option (V × List Obj)
abbrev Code1 := AC → St → Option (Ex × St)

def alone (h : List Obj) (p : V × List Obj) : Option (V × List Obj) :=
  match p.2 with
  | [] => some (p.1, h)
  | _ :: _ => none

def calls (K : Calls1) (r : Rand → V) (h : List Obj) (pure : Bool) (f : Rand) (args : List Rand) : Option (V × List Obj) :=
  match target (r f) (args.map r) with
  | none => none
  | some (fk, vs) =>
    if pure then
      (if vs.all V.pure then (K fk vs []).bind (alone h) else none)
    else K fk vs h

def perform (K : Calls1) (base : Nat) (h : List Obj) (r : Rand → V) (o : Op) : Option (V × List Obj) :=
  match o with
  | .call pure f args => calls K r h pure f args
  | .late o => if o.takes = [] then (eff h.length (h ++ [.free]) r o).map fun p => (p.1, setObjs (h ++ [.free]) p.2) else none
  | o => (eff base h r o).map fun p => (p.1, setObjs h p.2)

def wanted (o : Oper) (t : List (Nat × V)) : Option Bool :=
  match o.guard with
  | none => some true
  | some (g, w) => match get t g with
    | .sc (.bool b) => some (b == w)
    | .tup [] => some false
    | _ => none

def step (Γ : Env) (K : Calls1) (base : Nat) (o : Oper) (s : St) : Option St :=
  match wanted o s.t with
  | none => none
  | some false => some { s with t := put1 o.dst (.tup []) s.t }
  | some true => match perform K base s.h (rd Γ s.t) o.op with
    | none => none
    | some (v, h) => some { t := put1 o.dst v (drop o.op.takes s.t), h := h }

def stepT (Γ : Env) (K : Calls1) (base : Nat) (o : Oper) (st : St × List (Nat × Acc)) : Option (St × List (Nat × Acc)) :=
  match wanted o st.1.t with
  | none => none
  | some false => (step Γ K base o st.1).map fun s => (s, st.2)
  | some true =>
    let a := acc base (rd Γ st.1.t) o.op
    if o.conf.all fun j => st.2.all fun p => decide (p.1 ≠ j) || Acc.free p.2 a then (step Γ K base o st.1).map fun s => (s, (o.ix, a) :: st.2) else none

def steps (Γ : Env) (K : Calls1) (base : Nat) : List Oper → St → Option St
  | [], s => some s
  | o :: os, s => match step Γ K base o s with
    | none => none
    | some s => steps Γ K base os s

def stepsT (Γ : Env) (K : Calls1) (base : Nat) : List Oper → St × List (Nat × Acc) → Option (St × List (Nat × Acc))
  | [], s => some s
  | o :: os, s => match stepT Γ K base o s with
    | none => none
    | some s => stepsT Γ K base os s

def region (Γ : Env) (K : Calls1) (nal : Nat) (ops : List Oper) (draw : Bool) (keep : List Nat) (s : St) : Option (Ex × St) :=
  let s0 : St := { s with h := s.h ++ List.replicate nal .free }
  (match draw with
    | false => steps Γ K s.h.length ops s0
    | true => (stepsT Γ K s.h.length ops (s0, [])).map Prod.fst).map fun (s : St) => (Ex.norm, ({ s with t := restrict keep s.t } : St))

def trim (keep : List Nat) (n : Nat) (s : St) : Option St :=
  let t := restrict keep s.t
  if t.all (fun p => p.2.under n) ∧ (s.h.take n).all (Obj.under n) then some { t := t, h := s.h.take n } else none

def frozen (i : Nat) (s : St) : Option St :=
  match get s.t i with
  | .sc (.ptr r off) => match s.h[r]? with
    | some (.var cs) => if C.pureL (cs.map unown) then some { t := (i, .sc (.eptr (cs.map unown) off)) :: s.t, h := s.h.set r .dead } else none
    | _ => none
  | _ => none

mutual
def frozenCell : Nat → C → List Obj → Option (C × List Obj)
  | 0, _, _ => none
  | n + 1, c, h => match c with
    | .map p => match h[p]? with
      | some (.map ka va l none) => some (.imap ka va l, h.set p .dead)
      | _ => none
    | .msl r off len cap es => match h[r]? with
      | some (.var cs) => match frozenCells n (cs.map unown) h with
        | some (cs, h) => match h[r]? with
          | some (.var _) => if C.pureL cs then (chunks cs off es len).map fun l => (.sl (if cap = len ∧ cap ≠ 0 then .full else .shared) es l, h.set r .dead) else none
          | _ => none
        | none => none
      | _ => none
    | c => some (c, h)
def frozenCells : Nat → List C → List Obj → Option (List C × List Obj)
  | 0, _, _ => none
  | _, [], h => some ([], h)
  | n + 1, c :: cs, h => match frozenCell n c h with
    | some (c, h) => match frozenCells n cs h with
      | some (cs, h) => some (c :: cs, h)
      | none => none
    | none => none
end

def frozenC (i : Nat) (s : St) : Option St :=
  match get s.t i with
  | .sc (.ptr r _) => match s.h[r]? with
    | some (.var cs) => match frozenCells 400 cs s.h with
      | some (cs, h) => match h[r]? with
        | some (.var _) => some { s with h := h.set r (.var cs) }
        | _ => none
      | none => none
    | _ => none
  | .sc (.msl r off len cap es) => match frozenCell 400 (.msl r off len cap es) s.h with
    | some (c, h) => some { t := (i, .sc c) :: s.t, h := h }
    | none => none
  | _ => none

def execF (Γ : Env) (X : Code1) (K : Calls1) : AC → St → Option (Ex × St)
  | .skip, s => some (.norm, s)
  | .region nal ops draw keep, s => region Γ K nal ops draw keep s
  | .seq a b, s => match X a s with
    | some (.norm, s) => X b s
    | r => r
  | .cond c a b, s => match rd Γ s.t c with
    | .sc (.bool true) => X a s
    | .sc (.bool false) => X b s
    | _ => none
  | .block id body, s => match X body s with
    | some (.exit id', s) => if id' = id then some (.norm, s) else some (.exit id', s)
    | r => r
  | .loop keep body, s => match X body s with
    | some (.norm, s') => match trim keep s.h.length s' with
      | some s' => X (.loop keep body) s'
      | none => none
    | r => r
  | .rfunc f ps assign body, s =>
    let l := s.h.length
    match target (rd Γ s.t f) [.sc (.fn (.yield l) [] [] [])] with
    | some (.fn id, vs) =>
      match K (.fn id) vs (s.h ++ [.loop .ready none (unowned s.t) ps assign body]) with
      | none => none
      | some (_, h) => match h[l]? with
        | some (.loop st pend _ _ _ _) => if st = .busy then none else if (h.take l).all (Obj.under l) then some (pend.getD .norm, { s with h := h.take l }) else none
        | _ => none
    | _ => none
  | .exit id, s => some (.exit id, s)
  | .scope body, s => X body s
  | .ret, s => some (.ret, s)
  | .frz i body, s => match frozen i s with
    | some s => X body s
    | none => none
  | .frzc i body, s => match frozenC i s with
    | some s => X body s
    | none => none

/-! ### The end of a call: what it hands back names nothing that it made -/

mutual
def frz (b : Nat) (h : List Obj) : Nat → C → Option C
  | 0, _ => none
  | n + 1, c => match c with
    | .own es l => some (.sl .shared es l)
    | .ptr r off => if r < b then some c else match h[r]? with
      | some (.var cs) => match frzL b h n cs with
        | some cs => if C.pureL cs then some (.eptr cs off) else none
        | none => none
      | _ => none
    | .map r => if r < b then some c else match h[r]? with
      | some (.map ka va l none) => some (.imap ka va l)
      | _ => none
    | .msl r off len cap es => if r < b then some c else match h[r]? with
      | some (.var cs) => match frzL b h n cs with
        | some cs => if C.pureL cs then (chunks cs off es len).map fun l => .sl (if cap = len ∧ cap ≠ 0 then .full else .shared) es l else none
        | none => none
      | _ => none
    | .fn f sh first cap => match f with
      | .yield l => if l < b then some c else none
      | .fn _ => match frzL b h n first, frzL b h n cap with
        | some a, some d => some (.fn f sh a d)
        | _, _ => none
    | .stamp _ _ => none
    | c => some c
def frzL (b : Nat) (h : List Obj) : Nat → List C → Option (List C)
  | 0, _ => none
  | _, [] => some []
  | n + 1, c :: cs => match frz b h n c, frzL b h n cs with
    | some c, some cs => some (c :: cs)
    | _, _ => none
end

def frzV (b : Nat) (h : List Obj) : V → Option V
  | .sc c => (frz b h 64 c).map .sc
  | .agg cs => (frzL b h 128 cs).map .agg
  | .tup _ => none

def frzVs (b : Nat) (h : List Obj) : List V → Option (List V)
  | [] => some []
  | v :: vs => match frzV b h v, frzVs b h vs with
    | some v, some vs => some (v :: vs)
    | _, _ => none

def result1 (s : St) (p : Nat × Option (Option Nat)) : Option V :=
  match p.2 with
  | none => some (get s.t p.1).unown
  | some n => match get s.t p.1 with
    | .sc (.ptr r off) => match s.h[r]? with
      | some (.var cs) => loadFrom cs off n
      | _ => none
    | _ => none

def results (s : St) : List (Nat × Option (Option Nat)) → Option (List V)
  | [] => some []
  | p :: ps => match result1 s p, results s ps with
    | some v, some vs => some (v :: vs)
    | _, _ => none

def tuple : List V → V
  | [v] => v
  | vs => .tup vs

def number (n : Nat) : List V → List (Nat × V)
  | [] => []
  | v :: vs => (n, v) :: number (n + 1) vs

def setParams : List Nat → List V → List (Nat × V) → List (Nat × V)
  | p :: ps, v :: vs, t => setParams ps vs ((p, v) :: t)
  | _, _, t => t

def callF (Γ : Env) (X : Code1) : Calls1
  | .fn id, vs, h => match Γ.fn id with
    | some f =>
      if vs.length ≠ f.np then none else
      match X f.body { t := number 0 vs, h := h } with
      | some (e, s) => match e with
        | .exit _ => none
        | _ => match results s f.res with
          | some rs => if f.opn then some (tuple rs, s.h) else match frzVs h.length s.h rs with
            | some rs => if (s.h.take h.length).all (Obj.under h.length) then some (tuple rs, s.h.take h.length) else none
            | none => none
          | none => none
      | none => none
    | none => match Γ.prim id with
      | some p => if vs.all V.pure then (p vs).map fun v => (v, h) else none
      | none => none
  | .yield l, vs, h => match h[l]? with
    | some (.loop .ready none t ps assign body) =>
      if vs.length ≠ ps.length then none else
      match X assign { t := setParams ps vs t, h := h } with
      | some (.norm, s) => match s.h[l]? with
        | some (.loop .ready none t1 ps1 assign1 body1) => match X body { s with h := s.h.set l (.loop .busy none t1 ps1 assign1 body1) } with
          | some (e, s) => match s.h[l]? with
            | some (.loop .busy _ t' ps' assign' body') =>
              if ((s.h.set l (.loop (if e = .norm then .ready else .done) (if e = .norm then none else some e) t' ps' assign' body')).take h.length).all (Obj.under h.length) then
                some (.sc (.bool (decide (e = .norm))), (s.h.set l (.loop (if e = .norm then .ready else .done) (if e = .norm then none else some e) t' ps' assign' body')).take h.length)
              else none
            | _ => none
          | none => none
        | _ => none
      | _ => none
    | _ => none

def run (Γ : Env) : Nat → Code1 × Calls1
  | 0 => (fun _ _ => none, fun _ _ _ => none)
  | n + 1 => (execF Γ (run Γ n).1 (run Γ n).2, callF Γ (run Γ n).1)

end Go.Pm

namespace Go.Pm

def KLe (K K' : Calls1) : Prop := ∀ f a h r, K f a h = some r → K' f a h = some r
def XLe (X X' : Code1) : Prop := ∀ c s r, X c s = some r → X' c s = some r

theorem calls_mono {K K' : Calls1} (hK : KLe K K') {r : Rand → V} {h : List Obj} {p : Bool} {f : Rand} {args : List Rand} {x : V × List Obj}
    (e : calls K r h p f args = some x) : calls K' r h p f args = some x := by
  unfold calls at *
  cases ht : target (r f) (args.map r) with
  | none => simp [ht] at e
  | some q =>
    obtain ⟨fk, vs⟩ := q
    simp only [ht] at e ⊢
    cases p with
    | false => exact hK _ _ _ _ e
    | true =>
      by_cases hv : vs.all V.pure = true
      · simp only [if_true, hv, Option.bind_eq_some_iff] at e ⊢
        obtain ⟨a, ha, e⟩ := e
        exact ⟨a, hK _ _ _ _ ha, e⟩
      · simp [hv] at e

theorem perform_mono {K K' : Calls1} (hK : KLe K K') {base : Nat} {h : List Obj} {r : Rand → V} {o : Op} {x : V × List Obj}
    (e : perform K base h r o = some x) : perform K' base h r o = some x := by
  cases o with
  | call p f args => exact calls_mono hK e
  | _ => exact e

theorem step_mono {Γ : Env} {K K' : Calls1} (hK : KLe K K') {base : Nat} {o : Oper} {s s' : St}
    (e : step Γ K base o s = some s') : step Γ K' base o s = some s' := by
  unfold step at *
  cases hw : wanted o s.t with
  | none => simp [hw] at e
  | some b =>
    cases b with
    | false => simpa [hw] using e
    | true =>
      simp only [hw] at e ⊢
      cases hp : perform K base s.h (rd Γ s.t) o.op with
      | none => simp [hp] at e
      | some x => rw [perform_mono hK hp]; simpa [hp] using e

theorem stepT_mono {Γ : Env} {K K' : Calls1} (hK : KLe K K') {base : Nat} {o : Oper} {s s' : St × List (Nat × Acc)}
    (e : stepT Γ K base o s = some s') : stepT Γ K' base o s = some s' := by
  unfold stepT at *
  cases hw : wanted o s.1.t with
  | none => simp [hw] at e
  | some b =>
    cases b with
    | false =>
      simp only [hw, Option.map_eq_some_iff] at e ⊢
      obtain ⟨a, ha, e⟩ := e
      exact ⟨a, step_mono hK ha, e⟩
    | true =>
      simp only [hw] at e ⊢
      split at e
      · rename_i hc
        rw [if_pos hc]
        simp only [Option.map_eq_some_iff] at e ⊢
        obtain ⟨a, ha, e⟩ := e
        exact ⟨a, step_mono hK ha, e⟩
      · cases e

theorem steps_mono {Γ : Env} {K K' : Calls1} (hK : KLe K K') {base : Nat} : ∀ {ops : List Oper} {s s' : St},
    steps Γ K base ops s = some s' → steps Γ K' base ops s = some s'
  | [], _, _, e => e
  | o :: os, s, s', e => by
    unfold steps at *
    cases hs : step Γ K base o s with
    | none => simp [hs] at e
    | some s1 => rw [step_mono hK hs]; rw [hs] at e; exact steps_mono hK e

theorem stepsT_mono {Γ : Env} {K K' : Calls1} (hK : KLe K K') {base : Nat} : ∀ {ops : List Oper} {s s' : St × List (Nat × Acc)},
    stepsT Γ K base ops s = some s' → stepsT Γ K' base ops s = some s'
  | [], _, _, e => e
  | o :: os, s, s', e => by
    unfold stepsT at *
    cases hs : stepT Γ K base o s with
    | none => simp [hs] at e
    | some s1 => rw [stepT_mono hK hs]; rw [hs] at e; exact stepsT_mono hK e

theorem region_mono {Γ : Env} {K K' : Calls1} (hK : KLe K K') {nal : Nat} {ops : List Oper} {d : Bool} {keep : List Nat} {s : St} {r : Ex × St}
    (e : region Γ K nal ops d keep s = some r) : region Γ K' nal ops d keep s = some r := by
  unfold region at *
  cases d with
  | false =>
    simp only [Option.map_eq_some_iff] at e ⊢
    obtain ⟨a, ha, e⟩ := e
    exact ⟨a, steps_mono hK ha, e⟩
  | true =>
    simp only [Option.map_eq_some_iff] at e ⊢
    obtain ⟨a, ⟨b, hb, e1⟩, e⟩ := e
    exact ⟨a, ⟨b, stepsT_mono hK hb, e1⟩, e⟩

theorem execF_mono {Γ : Env} {X X' : Code1} {K K' : Calls1} (hX : XLe X X') (hK : KLe K K') {c : AC} {s : St} {r : Ex × St}
    (e : execF Γ X K c s = some r) : execF Γ X' K' c s = some r := by
  cases c with
  | skip => exact e
  | region nal ops d keep => exact region_mono hK e
  | seq a b =>
    simp only [execF] at e ⊢
    cases ha : X a s with
    | none => rw [ha] at e; cases e
    | some q =>
      obtain ⟨x, s1⟩ := q
      rw [hX _ _ _ ha]; rw [ha] at e
      cases x with
      | norm => exact hX _ _ _ e
      | exit _ => exact e
      | ret => exact e
  | cond c a b =>
    simp only [execF] at e ⊢
    split at e
    · exact hX _ _ _ e
    · exact hX _ _ _ e
    · cases e
  | block id body =>
    simp only [execF] at e ⊢
    cases ha : X body s with
    | none => rw [ha] at e; cases e
    | some q => rw [hX _ _ _ ha]; rw [ha] at e; exact e
  | loop keep body =>
    simp only [execF] at e ⊢
    cases ha : X body s with
    | none => rw [ha] at e; cases e
    | some q =>
      obtain ⟨x, s1⟩ := q
      rw [hX _ _ _ ha]; rw [ha] at e
      cases x with
      | norm =>
        simp only at e ⊢
        cases ht : trim keep s.h.length s1 with
        | none => rw [ht] at e; cases e
        | some s2 => rw [ht] at e; exact hX _ _ _ e
      | exit _ => exact e
      | ret => exact e
  | rfunc f ps assign body =>
    simp only [execF] at e ⊢
    split at e
    · rename_i id vs ht
      cases hk : K (.fn id) vs (s.h ++ [.loop .ready none (unowned s.t) ps assign body]) with
      | none => rw [hk] at e; cases e
      | some q => simp only [hK _ _ _ _ hk]; rw [hk] at e; exact e
    · cases e
  | exit id => exact e
  | scope body => exact hX _ _ _ e
  | ret => exact e
  | frz i body =>
    simp only [execF] at e ⊢
    cases ha : frozen i s with
    | none => rw [ha] at e; cases e
    | some q => rw [ha] at e; exact hX _ _ _ e
  | frzc i body =>
    simp only [execF] at e ⊢
    cases ha : frozenC i s with
    | none => rw [ha] at e; cases e
    | some q => rw [ha] at e; exact hX _ _ _ e

theorem callF_mono {Γ : Env} {X X' : Code1} (hX : XLe X X') : KLe (callF Γ X) (callF Γ X') := by
  intro f a h r e
  cases f with
  | fn id =>
    simp only [callF] at e ⊢
    split at e
    · rename_i f hf
      split at e
      · cases e
      · rename_i hl
        rw [if_neg hl]
        cases hb : X f.body { t := number 0 a, h := h } with
        | none => rw [hb] at e; cases e
        | some q => rw [hX _ _ _ hb]; rw [hb] at e; exact e
    · exact e
  | yield l =>
    simp only [callF] at e ⊢
    split at e
    · rename_i t ps assign body hl
      split at e
      · cases e
      · rename_i hn
        rw [if_neg hn]
        cases hb : X assign { t := setParams ps a t, h := h } with
        | none => rw [hb] at e; cases e
        | some q =>
          obtain ⟨x, s⟩ := q
          rw [hX _ _ _ hb]; rw [hb] at e
          cases x with
          | norm =>
            simp only at e ⊢
            split at e
            · rename_i t1 ps1 assign1 body1 hl1
              cases hb2 : X body { s with h := s.h.set l (.loop .busy none t1 ps1 assign1 body1) } with
              | none => rw [hb2] at e; cases e
              | some q2 => rw [hX _ _ _ hb2]; rw [hb2] at e; exact e
            · cases e
          | exit _ => cases e
          | ret => cases e
    · cases e

theorem run_succ (Γ : Env) : ∀ n, XLe (run Γ n).1 (run Γ (n + 1)).1 ∧ KLe (run Γ n).2 (run Γ (n + 1)).2
  | 0 => ⟨fun _ _ _ e => by simp [run] at e, fun _ _ _ _ e => by simp [run] at e⟩
  | n + 1 => by
    obtain ⟨h1, h2⟩ := run_succ Γ n
    exact ⟨fun c s r e => execF_mono h1 h2 e, callF_mono h1⟩

theorem run_le (Γ : Env) {m n : Nat} (h : m ≤ n) : XLe (run Γ m).1 (run Γ n).1 ∧ KLe (run Γ m).2 (run Γ n).2 := by
  induction h with
  | refl => exact ⟨fun _ _ _ e => e, fun _ _ _ _ e => e⟩
  | step _ ih => exact ⟨fun c s r e => (run_succ Γ _).1 _ _ _ (ih.1 _ _ _ e), fun f a h r e => (run_succ Γ _).2 _ _ _ _ (ih.2 _ _ _ _ e)⟩

open Classical in
noncomputable def lim {α : Type} (φ : Nat → Option α) : Option α :=
  if h : ∃ r n, φ n = some r then some h.choose else none

theorem lim_iff {α : Type} {φ : Nat → Option α} (hm : ∀ m n r, m ≤ n → φ m = some r → φ n = some r) (r : α) : lim φ = some r ↔ ∃ n, φ n = some r := by
  unfold lim
  constructor
  · intro h
    split at h
    · rename_i hx
      obtain ⟨n, hn⟩ := hx.choose_spec
      exact ⟨n, by rw [hn]; exact h⟩
    · cases h
  · rintro ⟨n, hn⟩
    have hx : ∃ r n, φ n = some r := ⟨r, n, hn⟩
    rw [dif_pos hx]
    obtain ⟨m, hm'⟩ := hx.choose_spec
    have h1 := hm _ _ _ (Nat.le_max_left m n) hm'
    have h2 := hm _ _ _ (Nat.le_max_right m n) hn
    rw [h1] at h2
    exact h2

noncomputable def X (Γ : Env) : Code1 := fun c s => lim fun n => (run Γ n).1 c s
noncomputable def K (Γ : Env) : Calls1 := fun f a h => lim fun n => (run Γ n).2 f a h

theorem X_iff {Γ : Env} {c : AC} {s : St} {r : Ex × St} : X Γ c s = some r ↔ ∃ n, (run Γ n).1 c s = some r :=
  lim_iff (fun _ _ _ hmn e => (run_le Γ hmn).1 _ _ _ e) r
theorem K_iff {Γ : Env} {f : Fk} {a : List V} {h : List Obj} {r : V × List Obj} : K Γ f a h = some r ↔ ∃ n, (run Γ n).2 f a h = some r :=
  lim_iff (fun _ _ _ hmn e => (run_le Γ hmn).2 _ _ _ _ e) r

theorem run_X {Γ : Env} (n : Nat) : XLe (run Γ n).1 (X Γ) := fun _ _ _ e => X_iff.2 ⟨n, e⟩
theorem run_K {Γ : Env} (n : Nat) : KLe (run Γ n).2 (K Γ) := fun _ _ _ _ e => K_iff.2 ⟨n, e⟩

/-! ### What the whole does, some number of steps does -/

theorem perform_lim {Γ : Env} {base : Nat} {h : List Obj} {r : Rand → V} {o : Op} {x : V × List Obj}
    (e : perform (K Γ) base h r o = some x) : ∃ n, perform (run Γ n).2 base h r o = some x := by
  cases o with
  | call p f args =>
    simp only [perform, calls] at e ⊢
    cases ht : target (r f) (args.map r) with
    | none => simp [ht] at e
    | some q =>
      obtain ⟨fk, vs⟩ := q
      simp only [ht] at e ⊢
      cases p with
      | false => exact K_iff.1 e
      | true =>
        by_cases hv : vs.all V.pure = true
        · simp only [if_true, hv, Option.bind_eq_some_iff] at e ⊢
          obtain ⟨a, ha, e⟩ := e
          obtain ⟨n, hn⟩ := K_iff.1 ha
          exact ⟨n, a, hn, e⟩
        · simp [hv] at e
  | _ => exact ⟨0, e⟩

theorem step_lim {Γ : Env} {base : Nat} {o : Oper} {s s' : St} (e : step Γ (K Γ) base o s = some s') : ∃ n, step Γ (run Γ n).2 base o s = some s' := by
  unfold step at *
  cases hw : wanted o s.t with
  | none => simp [hw] at e
  | some b =>
    cases b with
    | false => exact ⟨0, by simpa [hw] using e⟩
    | true =>
      simp only [hw] at e ⊢
      cases hp : perform (K Γ) base s.h (rd Γ s.t) o.op with
      | none => simp [hp] at e
      | some x => obtain ⟨n, hn⟩ := perform_lim hp; exact ⟨n, by rw [hn]; simpa [hp] using e⟩

theorem stepT_lim {Γ : Env} {base : Nat} {o : Oper} {s s' : St × List (Nat × Acc)} (e : stepT Γ (K Γ) base o s = some s') :
    ∃ n, stepT Γ (run Γ n).2 base o s = some s' := by
  unfold stepT at *
  cases hw : wanted o s.1.t with
  | none => simp [hw] at e
  | some b =>
    cases b with
    | false =>
      simp only [hw, Option.map_eq_some_iff] at e ⊢
      obtain ⟨a, ha, e⟩ := e
      obtain ⟨n, hn⟩ := step_lim ha
      exact ⟨n, a, hn, e⟩
    | true =>
      simp only [hw] at e ⊢
      split at e
      · rename_i hc
        simp only [if_pos hc, Option.map_eq_some_iff] at e ⊢
        obtain ⟨a, ha, e⟩ := e
        obtain ⟨n, hn⟩ := step_lim ha
        exact ⟨n, a, hn, e⟩
      · cases e

theorem steps_lim {Γ : Env} {base : Nat} : ∀ {ops : List Oper} {s s' : St},
    steps Γ (K Γ) base ops s = some s' → ∃ n, steps Γ (run Γ n).2 base ops s = some s'
  | [], _, _, e => ⟨0, e⟩
  | o :: os, s, s', e => by
    unfold steps at e
    cases hs : step Γ (K Γ) base o s with
    | none => simp [hs] at e
    | some s1 =>
      rw [hs] at e
      obtain ⟨n, hn⟩ := step_lim hs
      obtain ⟨m, hm⟩ := steps_lim e
      refine ⟨max n m, ?_⟩
      unfold steps
      rw [step_mono (run_le Γ (Nat.le_max_left n m)).2 hn]
      exact steps_mono (run_le Γ (Nat.le_max_right n m)).2 hm

theorem stepsT_lim {Γ : Env} {base : Nat} : ∀ {ops : List Oper} {s s' : St × List (Nat × Acc)},
    stepsT Γ (K Γ) base ops s = some s' → ∃ n, stepsT Γ (run Γ n).2 base ops s = some s'
  | [], _, _, e => ⟨0, e⟩
  | o :: os, s, s', e => by
    unfold stepsT at e
    cases hs : stepT Γ (K Γ) base o s with
    | none => simp [hs] at e
    | some s1 =>
      rw [hs] at e
      obtain ⟨n, hn⟩ := stepT_lim hs
      obtain ⟨m, hm⟩ := stepsT_lim e
      refine ⟨max n m, ?_⟩
      unfold stepsT
      rw [stepT_mono (run_le Γ (Nat.le_max_left n m)).2 hn]
      exact stepsT_mono (run_le Γ (Nat.le_max_right n m)).2 hm

theorem execF_lim {Γ : Env} {c : AC} {s : St} {r : Ex × St} (e : execF Γ (X Γ) (K Γ) c s = some r) :
    ∃ n, execF Γ (run Γ n).1 (run Γ n).2 c s = some r := by
  cases c with
  | skip => exact ⟨0, e⟩
  | region nal ops d keep =>
    simp only [execF, region] at e ⊢
    cases d with
    | false =>
      simp only [Option.map_eq_some_iff] at e ⊢
      obtain ⟨a, ha, e⟩ := e
      obtain ⟨n, hn⟩ := steps_lim ha
      exact ⟨n, a, hn, e⟩
    | true =>
      simp only [Option.map_eq_some_iff] at e ⊢
      obtain ⟨a, ⟨b, hb, e1⟩, e⟩ := e
      obtain ⟨n, hn⟩ := stepsT_lim hb
      exact ⟨n, a, ⟨b, hn, e1⟩, e⟩
  | seq a b =>
    simp only [execF] at e ⊢
    cases ha : X Γ a s with
    | none => rw [ha] at e; cases e
    | some q =>
      obtain ⟨x, s1⟩ := q
      rw [ha] at e
      obtain ⟨n, hn⟩ := X_iff.1 ha
      cases x with
      | norm =>
        obtain ⟨m, hm⟩ := X_iff.1 e
        refine ⟨max n m, ?_⟩
        rw [(run_le Γ (Nat.le_max_left n m)).1 _ _ _ hn]
        exact (run_le Γ (Nat.le_max_right n m)).1 _ _ _ hm
      | exit _ => exact ⟨n, by rw [hn]; exact e⟩
      | ret => exact ⟨n, by rw [hn]; exact e⟩
  | cond c a b =>
    simp only [execF] at e ⊢
    split at e
    · exact X_iff.1 e
    · exact X_iff.1 e
    · cases e
  | block id body =>
    simp only [execF] at e ⊢
    cases ha : X Γ body s with
    | none => rw [ha] at e; cases e
    | some q =>
      rw [ha] at e
      obtain ⟨n, hn⟩ := X_iff.1 ha
      exact ⟨n, by rw [hn]; exact e⟩
  | loop keep body =>
    simp only [execF] at e ⊢
    cases ha : X Γ body s with
    | none => rw [ha] at e; cases e
    | some q =>
      obtain ⟨x, s1⟩ := q
      rw [ha] at e
      obtain ⟨n, hn⟩ := X_iff.1 ha
      cases x with
      | norm =>
        simp only at e
        cases ht : trim keep s.h.length s1 with
        | none => rw [ht] at e; cases e
        | some s2 =>
          rw [ht] at e
          obtain ⟨m, hm⟩ := X_iff.1 e
          refine ⟨max n m, ?_⟩
          rw [(run_le Γ (Nat.le_max_left n m)).1 _ _ _ hn]
          simp only [ht]
          exact (run_le Γ (Nat.le_max_right n m)).1 _ _ _ hm
      | exit _ => exact ⟨n, by rw [hn]; exact e⟩
      | ret => exact ⟨n, by rw [hn]; exact e⟩
  | rfunc f ps assign body =>
    simp only [execF] at e ⊢
    split at e
    · rename_i id vs ht
      cases hk : K Γ (.fn id) vs (s.h ++ [.loop .ready none (unowned s.t) ps assign body]) with
      | none => rw [hk] at e; cases e
      | some q =>
        rw [hk] at e
        obtain ⟨n, hn⟩ := K_iff.1 hk
        exact ⟨n, by simp only [hn]; exact e⟩
    · cases e
  | exit id => exact ⟨0, e⟩
  | scope body => exact X_iff.1 e
  | ret => exact ⟨0, e⟩
  | frz i body =>
    simp only [execF] at e ⊢
    cases ha : frozen i s with
    | none => rw [ha] at e; cases e
    | some q => rw [ha] at e; exact X_iff.1 e
  | frzc i body =>
    simp only [execF] at e ⊢
    cases ha : frozenC i s with
    | none => rw [ha] at e; cases e
    | some q => rw [ha] at e; exact X_iff.1 e

theorem callF_lim {Γ : Env} {f : Fk} {a : List V} {h : List Obj} {r : V × List Obj} (e : callF Γ (X Γ) f a h = some r) :
    ∃ n, callF Γ (run Γ n).1 f a h = some r := by
  cases f with
  | fn id =>
    simp only [callF] at e ⊢
    split at e
    · rename_i f hf
      split at e
      · cases e
      · rename_i hl
        cases hb : X Γ f.body { t := number 0 a, h := h } with
        | none => rw [hb] at e; cases e
        | some q =>
          rw [hb] at e
          obtain ⟨n, hn⟩ := X_iff.1 hb
          exact ⟨n, by simp only [if_neg hl, hn]; exact e⟩
    · rename_i hf
      exact ⟨0, e⟩
  | yield l =>
    simp only [callF] at e ⊢
    split at e
    · rename_i t ps assign body hl
      split at e
      · cases e
      · rename_i hnl
        cases hb : X Γ assign { t := setParams ps a t, h := h } with
        | none => rw [hb] at e; cases e
        | some q =>
          obtain ⟨x, s⟩ := q
          rw [hb] at e
          obtain ⟨n, hn⟩ := X_iff.1 hb
          cases x with
          | norm =>
            simp only at e
            split at e
            · rename_i t1 ps1 assign1 body1 hl1
              cases hb2 : X Γ body { s with h := s.h.set l (.loop .busy none t1 ps1 assign1 body1) } with
              | none => rw [hb2] at e; cases e
              | some q2 =>
                rw [hb2] at e
                obtain ⟨m, hm⟩ := X_iff.1 hb2
                refine ⟨max n m, ?_⟩
                simp only [if_neg hnl, (run_le Γ (Nat.le_max_left n m)).1 _ _ _ hn, hl1, (run_le Γ (Nat.le_max_right n m)).1 _ _ _ hm]
                exact e
            · cases e
          | exit _ => cases e
          | ret => cases e
    · cases e

theorem X_eq (Γ : Env) (c : AC) (s : St) : X Γ c s = execF Γ (X Γ) (K Γ) c s := by
  apply Option.ext
  intro r
  constructor
  · intro e
    obtain ⟨n, hn⟩ := X_iff.1 e
    cases n with
    | zero => simp [run] at hn
    | succ n => exact execF_mono (run_X n) (run_K n) hn
  · intro e
    obtain ⟨n, hn⟩ := execF_lim e
    exact X_iff.2 ⟨n + 1, hn⟩

theorem K_eq (Γ : Env) (f : Fk) (a : List V) (h : List Obj) : K Γ f a h = callF Γ (X Γ) f a h := by
  apply Option.ext
  intro r
  constructor
  · intro e
    obtain ⟨n, hn⟩ := K_iff.1 e
    cases n with
    | zero => simp [run] at hn
    | succ n => exact callF_mono (run_X n) _ _ _ _ hn
  · intro e
    obtain ⟨n, hn⟩ := callF_lim e
    exact K_iff.2 ⟨n + 1, hn⟩

end Go.Pm

namespace Go.Pm

structure Seat where
  P : Program
  Γ : Env
  fm : Nat → FuncId
  gm : Nat → Nat

structure Gh where
  σ : Nat → Nat
  A : Nat → Prop
  M : Nat → Nat → Option Value
  N : Nat → Option (Array MapEntry)

structure Gh.Le (g g' : Gh) : Prop where
  as : ∀ r, g.A r → g'.A r
  eq : ∀ r, g.A r → g'.σ r = g.σ r
  im : ∀ b o v, g.M b o = some v → g'.M b o = some v
  mm : ∀ b es, g.N b = some es → g'.N b = some es

theorem Gh.Le.refl (g : Gh) : g.Le g := ⟨fun _ h => h, fun _ _ => rfl, fun _ _ _ h => h, fun _ _ h => h⟩
theorem Gh.Le.trans {a b c : Gh} (h : a.Le b) (k : b.Le c) : a.Le c :=
  ⟨fun r x => k.as r (h.as r x), fun r x => (k.eq r (h.as r x)).trans (h.eq r x), fun b o v x => k.im b o v (h.im b o v x), fun b es x => k.mm b es (h.mm b es x)⟩

def Gh.cut (g : Gh) (n : Nat) : Gh := { g with A := fun r => g.A r ∧ r < n }

def unflatV : List (Option Nat) → List Value → Option (List Value)
  | [], [] => some []
  | none :: sh, v :: vs => (unflatV sh vs).map (v :: ·)
  | some n :: sh, vs => if n ≤ vs.length then (unflatV sh (vs.drop n)).map (.agg (vs.take n).toArray :: ·) else none
  | _, _ => none

def scalar : Value → Bool
  | .agg _ | .tuple _ => false
  | _ => true

def ofV (agg : Bool) (vs : List Value) : Value := if agg then .agg vs.toArray else vs.headD undef

inductive RC (S : Seat) (g : Gh) : C → Value → Prop
  | int (k : IntKind) (n : Int) : RC S g (.int k n) (.int k n)
  | bool (b : Bool) : RC S g (.bool b) (.bool b)
  | str (s : ByteArray) : RC S g (.str s) (.string s)
  | nilf : RC S g .nilf .nilFunc
  | nilp : RC S g .nilp (.pointer none)
  | nili : RC S g .nili .nilIface
  | slNil (es : Nat) : RC S g (.sl .nil es []) (.slice none 0 0)
  | sl (k : SK) (es : Nat) (l : List (List C)) (b off cap : Nat) (vals : Nat → Nat → Value) (hk : k ≠ .nil) (hf : k = .full → cap = l.length) (hc : l.length ≤ cap)
      (hl : ∀ (i : Nat) (e : List C), l[i]? = some e → e.length = es) (hp : ∀ (i : Nat) (e : List C), l[i]? = some e → C.pureL e = true)
      (hM : ∀ (i : Nat) (e : List C) (j : Nat), l[i]? = some e → j < es → g.M b (off + i * es + j) = some (vals i j))
      (hr : ∀ (i : Nat) (e : List C) (j : Nat) c, l[i]? = some e → e[j]? = some c → RC S g c (vals i j)) :
      RC S g (.sl k es l) (.slice (some ⟨b, off, none⟩) l.length cap)
  | imapNil (ka va : Bool) : RC S g (.imap ka va []) (.map none)
  | imap (ka va : Bool) (l : List (List C × List C)) (r : Nat) (es : Array MapEntry) (kv vv : Nat → List Value) (hN : g.N r = some es) (hs : es.size = l.length)
      (hE : ∀ (i : Nat) e, l[i]? = some e → ∃ m, es[i]? = some m ∧ m.key = ofV ka (kv i) ∧ m.val = ofV va (vv i))
      (hL : ∀ (i : Nat) e, l[i]? = some e → (kv i).length = e.1.length ∧ (vv i).length = e.2.length ∧ (ka = false → e.1.length = 1) ∧ (va = false → e.2.length = 1) ∧ C.pureL e.1 = true ∧ C.pureL e.2 = true)
      (hK : ∀ (i : Nat) e (j : Nat) c v, l[i]? = some e → e.1[j]? = some c → (kv i)[j]? = some v → RC S g c v)
      (hV : ∀ (i : Nat) e (j : Nat) c v, l[i]? = some e → e.2[j]? = some c → (vv i)[j]? = some v → RC S g c v) :
      RC S g (.imap ka va l) (.map (some r))
  | eptr (cs : List C) (off b o : Nat) (vals : Nat → Value) (hp : C.pureL cs = true) (hM : ∀ j, j < cs.length → g.M b (o + j) = some (vals j))
      (hr : ∀ (j : Nat) c, cs[j]? = some c → RC S g c (vals j)) : RC S g (.eptr cs off) (.pointer (some ⟨b, o + off, none⟩))
  | fn (id : Nat) (sh : List (Option Nat)) (first cap : List C) (fs fvs cvs : List Value) (hlen : fs.length = first.length) (hu : unflatV sh fs = some fvs)
      (hr : ∀ (j : Nat) c v, first[j]? = some c → fs[j]? = some v → RC S g c v) (hcl : cvs.length = cap.length)
      (hc : ∀ (j : Nat) c v, cap[j]? = some c → cvs[j]? = some v → RC S g c v) :
      RC S g (.fn (.fn id) sh first cap) (.func (.func (S.fm id)) fvs.toArray cvs.toArray)
  | yield (l : Nat) (hA : g.A l) : RC S g (.fn (.yield l) [] [] []) (.func (.yield (g.σ l)) #[] #[])
  | ptr (r off : Nat) (hA : g.A r) : RC S g (.ptr r off) (.pointer (some ⟨g.σ r, off, none⟩))
  | map (r : Nat) (hA : g.A r) : RC S g (.map r) (.map (some (g.σ r)))
  | msl (r off len cap es cap' : Nat) (hA : g.A r) (hlen : len ≤ cap') (hc : cap = 0 ∨ cap = cap') : RC S g (.msl r off len cap es) (.slice (some ⟨g.σ r, off, none⟩) len cap')
  | stamp (r i : Nat) (hA : g.A r) : RC S g (.stamp r i) (.int .i64 i)

theorem pureL_get {cs : List C} (h : C.pureL cs = true) {j : Nat} {c : C} (hj : cs[j]? = some c) : c.pure = true := by
  induction cs generalizing j with
  | nil => simp at hj
  | cons x xs ih =>
    simp only [C.pureL, Bool.and_eq_true] at h
    cases j with
    | zero => simp at hj; subst hj; exact h.1
    | succ j => exact ih h.2 (by simpa using hj)

theorem pureL_iff {cs : List C} : C.pureL cs = true ↔ ∀ c ∈ cs, c.pure = true := by
  induction cs with
  | nil => simp [C.pureL]
  | cons x xs ih => simp [C.pureL, ih]

theorem underL_get {n : Nat} {cs : List C} (h : C.underL n cs = true) {j : Nat} {c : C} (hj : cs[j]? = some c) : c.under n = true := by
  induction cs generalizing j with
  | nil => simp at hj
  | cons x xs ih =>
    simp only [C.underL, Bool.and_eq_true] at h
    cases j with
    | zero => simp at hj; subst hj; exact h.1
    | succ j => exact ih h.2 (by simpa using hj)

theorem underL_iff {n : Nat} {cs : List C} : C.underL n cs = true ↔ ∀ c ∈ cs, c.under n = true := by
  induction cs with
  | nil => simp [C.underL]
  | cons x xs ih => simp [C.underL, ih]

mutual
theorem pure_under (n : Nat) : ∀ c : C, c.pure = true → c.under n = true
  | .int _ _, _ | .bool _, _ | .str _, _ | .sl _ _ _, _ | .imap _ _ _, _ | .eptr _ _, _ | .nilf, _ | .nilp, _ | .nili, _ | .top, _ => by simp [C.under]
  | .own _ _, h | .ptr _ _, h | .map _, h | .msl _ _ _ _ _, h | .stamp _ _, h => by simp [C.pure] at h
  | .fn f sh first cap, h => by
    simp only [C.pure, Bool.and_eq_true] at h
    simp only [C.under, Bool.and_eq_true]
    refine ⟨⟨?_, pureL_underL n first h.1.2⟩, pureL_underL n cap h.2⟩
    cases f with
    | fn => rfl
    | yield => simp at h
theorem pureL_underL (n : Nat) : ∀ cs : List C, C.pureL cs = true → C.underL n cs = true
  | [], _ => rfl
  | c :: cs, h => by
    simp only [C.pureL, Bool.and_eq_true] at h
    simp only [C.underL, Bool.and_eq_true]
    exact ⟨pure_under n c h.1, pureL_underL n cs h.2⟩
end

mutual
theorem under_le {m n : Nat} (hmn : m ≤ n) : ∀ c : C, c.under m = true → c.under n = true
  | .int _ _, _ | .bool _, _ | .str _, _ | .sl _ _ _, _ | .imap _ _ _, _ | .eptr _ _, _ | .nilf, _ | .nilp, _ | .nili, _ | .top, _ | .own _ _, _ => by simp [C.under]
  | .ptr _ _, h | .map _, h | .msl _ _ _ _ _, h | .stamp _ _, h => by simp [C.under] at h ⊢; omega
  | .fn f sh first cap, h => by
    simp only [C.under, Bool.and_eq_true] at h ⊢
    refine ⟨⟨?_, underL_le hmn first h.1.2⟩, underL_le hmn cap h.2⟩
    cases f with
    | fn => rfl
    | yield l => simp at h ⊢; omega
theorem underL_le {m n : Nat} (hmn : m ≤ n) : ∀ cs : List C, C.underL m cs = true → C.underL n cs = true
  | [], _ => rfl
  | c :: cs, h => by
    simp only [C.underL, Bool.and_eq_true] at h ⊢
    exact ⟨under_le hmn c h.1, underL_le hmn cs h.2⟩
end

section
variable {S : Seat} {g g' : Gh} {c : C} {v : Value}

theorem RC.mono (h : RC S g c v) (hl : g.Le g') : RC S g' c v := by
  induction h with
  | int k n => exact .int k n
  | bool b => exact .bool b
  | str s => exact .str s
  | nilf => exact .nilf
  | nilp => exact .nilp
  | nili => exact .nili
  | slNil es => exact .slNil es
  | sl k es l b off cap vals hk hf hc hl' hp hM hr ih => exact .sl k es l b off cap vals hk hf hc hl' hp (fun i e j a x => hl.im _ _ _ (hM i e j a x)) ih
  | imapNil ka va => exact .imapNil ka va
  | imap ka va l r es kv vv hN hs hE hL hK hV ihK ihV => exact .imap ka va l r es kv vv (hl.mm _ _ hN) hs hE hL ihK ihV
  | eptr cs off b o vals hp hM hr ih => exact .eptr cs off b o vals hp (fun j hj => hl.im _ _ _ (hM j hj)) ih
  | fn id sh first cap fs fvs cvs hlen hu hr hcl hc ih1 ih2 => exact .fn id sh first cap fs fvs cvs hlen hu ih1 hcl ih2
  | yield l hA => rw [← hl.eq l hA]; exact .yield l (hl.as l hA)
  | ptr r off hA => rw [← hl.eq r hA]; exact .ptr r off (hl.as r hA)
  | map r hA => rw [← hl.eq r hA]; exact .map r (hl.as r hA)
  | msl r off len cap es cap' hA hlen hc => rw [← hl.eq r hA]; exact .msl r off len cap es cap' (hl.as r hA) hlen hc
  | stamp r i hA => exact .stamp r i (hl.as r hA)

theorem RC.of_pure (h : RC S g c v) (hp : c.pure = true) (hM : ∀ b o v, g.M b o = some v → g'.M b o = some v) (hN : ∀ b es, g.N b = some es → g'.N b = some es) : RC S g' c v := by
  induction h with
  | int k n => exact .int k n
  | bool b => exact .bool b
  | str s => exact .str s
  | nilf => exact .nilf
  | nilp => exact .nilp
  | nili => exact .nili
  | slNil es => exact .slNil es
  | sl k es l b off cap vals hk hf hc hl' hp' hM' hr ih =>
    exact .sl k es l b off cap vals hk hf hc hl' hp' (fun i e j a x => hM _ _ _ (hM' i e j a x)) (fun i e j c a x => ih i e j c a x (pureL_get (hp' i e a) x))
  | imapNil ka va => exact .imapNil ka va
  | imap ka va l r es kv vv hN' hs hE hL hK hV ihK ihV =>
    exact .imap ka va l r es kv vv (hN _ _ hN') hs hE hL (fun i e j c v a x y => ihK i e j c v a x y (pureL_get (hL i e a).2.2.2.2.1 x)) (fun i e j c v a x y => ihV i e j c v a x y (pureL_get (hL i e a).2.2.2.2.2 x))
  | eptr cs off b o vals hp' hM' hr ih => exact .eptr cs off b o vals hp' (fun j hj => hM _ _ _ (hM' j hj)) (fun j c x => ih j c x (pureL_get hp' x))
  | fn id sh first cap fs fvs cvs hlen hu hr hcl hc ih1 ih2 =>
    simp only [C.pure, Bool.and_eq_true] at hp
    exact .fn id sh first cap fs fvs cvs hlen hu (fun j c v a x => ih1 j c v a x (pureL_get hp.1.2 a)) hcl (fun j c v a x => ih2 j c v a x (pureL_get hp.2 a))
  | yield l hA => simp [C.pure] at hp
  | ptr r off hA => simp [C.pure] at hp
  | map r hA => simp [C.pure] at hp
  | msl r off len cap es cap' hA hlen hc => simp [C.pure] at hp
  | stamp r i hA => simp [C.pure] at hp

theorem RC.cut {n : Nat} (h : RC S g c v) (hu : c.under n = true) : RC S (g.cut n) c v := by
  induction h with
  | int k n => exact .int k n
  | bool b => exact .bool b
  | str s => exact .str s
  | nilf => exact .nilf
  | nilp => exact .nilp
  | nili => exact .nili
  | slNil es => exact .slNil es
  | sl k es l b off cap vals hk hf hc hl' hp' hM' hr ih =>
    exact .sl k es l b off cap vals hk hf hc hl' hp' hM' (fun i e j c a x => ih i e j c a x (pure_under n c (pureL_get (hp' i e a) x)))
  | imapNil ka va => exact .imapNil ka va
  | imap ka va l r es kv vv hN' hs hE hL hK hV ihK ihV =>
    exact .imap ka va l r es kv vv hN' hs hE hL (fun i e j c v a x y => ihK i e j c v a x y (pure_under n c (pureL_get (hL i e a).2.2.2.2.1 x))) (fun i e j c v a x y => ihV i e j c v a x y (pure_under n c (pureL_get (hL i e a).2.2.2.2.2 x)))
  | eptr cs off b o vals hp' hM' hr ih => exact .eptr cs off b o vals hp' hM' (fun j c x => ih j c x (pure_under n c (pureL_get hp' x)))
  | fn id sh first cap fs fvs cvs hlen hu' hr hcl hc ih1 ih2 =>
    simp only [C.under, Bool.and_eq_true] at hu
    exact .fn id sh first cap fs fvs cvs hlen hu' (fun j c v a x => ih1 j c v a x (underL_get hu.1.2 a)) hcl (fun j c v a x => ih2 j c v a x (underL_get hu.2 a))
  | yield l hA => simp [C.under, C.underL] at hu; exact .yield (g := g.cut n) l ⟨hA, hu⟩
  | ptr r off hA => simp [C.under] at hu; exact .ptr (g := g.cut n) r off ⟨hA, hu⟩
  | map r hA => simp [C.under] at hu; exact .map (g := g.cut n) r ⟨hA, hu⟩
  | msl r off len cap es cap' hA hlen hc => simp [C.under] at hu; exact .msl (g := g.cut n) r off len cap es cap' ⟨hA, hu⟩ hlen hc
  | stamp r i hA => simp [C.under] at hu; exact .stamp (g := g.cut n) r i ⟨hA, hu⟩

theorem underL_of {n : Nat} {cs : List C} (h : ∀ (j : Nat) c, cs[j]? = some c → c.under n = true) : C.underL n cs = true :=
  underL_iff.2 fun c hc => let ⟨j, hj⟩ := List.getElem?_of_mem hc; h j c hj

theorem RC.under {n : Nat} (h : RC S g c v) (hA : ∀ r, g.A r → r < n) : c.under n = true := by
  induction h with
  | int _ _ | bool _ | str _ | nilf | nilp | nili | slNil _ | sl _ _ _ _ _ _ _ _ _ _ _ _ _ _ | imapNil _ _ | imap _ _ _ _ _ _ _ _ _ _ _ _ _ | eptr _ _ _ _ _ _ _ _ => rfl
  | fn id sh first cap fs fvs cvs hlen hu hr hcl hc ih1 ih2 =>
    simp only [C.under, Bool.and_eq_true]
    refine ⟨⟨trivial, underL_of fun j c hj => ?_⟩, underL_of fun j c hj => ?_⟩
    · have : j < fs.length := by rw [hlen]; exact (List.getElem?_eq_some_iff.1 hj).1
      exact ih1 j c _ hj (List.getElem?_eq_getElem this)
    · have : j < cvs.length := by rw [hcl]; exact (List.getElem?_eq_some_iff.1 hj).1
      exact ih2 j c _ hj (List.getElem?_eq_getElem this)
  | yield l h => simpa [C.under, C.underL] using hA l h
  | ptr r off h => simpa [C.under] using hA r h
  | map r h => simpa [C.under] using hA r h
  | msl r off len cap es cap' h _ _ => simpa [C.under] using hA r h
  | stamp r i h => simpa [C.under] using hA r h

theorem RC.scalar (h : RC S g c v) : scalar v = true := by cases h <;> rfl
theorem RC.not_top (h : RC S g c v) : c ≠ .top := by cases h <;> simp
theorem RC.not_own (h : RC S g c v) : ∀ es l, c ≠ .own es l := by cases h <;> simp
theorem RC.unown_eq (h : RC S g c v) : unown c = c := by cases h <;> rfl
theorem RC.cells (h : RC S g c v) : v.cells = #[v] := by cases h <;> rfl
end

theorem Addr.add_none (b o n : Nat) : (⟨b, o, none⟩ : Addr).add n = ⟨b, o + n, none⟩ := by
  unfold Addr.add
  split
  · rename_i h; subst h; rfl
  · rfl

inductive RV (S : Seat) (g : Gh) : V → Value → Prop
  | top (v : Value) : RV S g (.sc .top) v
  | sc (c : C) (v : Value) (h : RC S g c v) : RV S g (.sc c) v
  | agg (cs : List C) (vals : Array Value) (hs : cs.length = vals.size) (h : ∀ (j : Nat) c v, cs[j]? = some c → vals[j]? = some v → RC S g c v) : RV S g (.agg cs) (.agg vals)
  | tup (vs : List V) (ws : Array Value) (hs : vs.length = ws.size) (h : ∀ (j : Nat) v w, vs[j]? = some v → ws[j]? = some w → RV S g v w) : RV S g (.tup vs) (.tuple ws)

theorem RV.mono {S : Seat} {g g' : Gh} {v : V} {w : Value} (h : RV S g v w) (hl : g.Le g') : RV S g' v w := by
  induction h with
  | top v => exact .top v
  | sc c v h => exact .sc c v (h.mono hl)
  | agg cs vals hs h => exact .agg cs vals hs fun j c v a b => (h j c v a b).mono hl
  | tup vs ws hs h ih => exact .tup vs ws hs ih

theorem RV.unown_eq {S : Seat} {g : Gh} {v : V} {w : Value} (h : RV S g v w) : v.unown = v := by
  cases h with
  | top v => rfl
  | sc c v h => simp [V.unown, h.unown_eq]
  | agg => rfl
  | tup => rfl

theorem RV.of_pure {S : Seat} {g g' : Gh} {v : V} {w : Value} (h : RV S g v w) (hp : v.pure = true) (hM : ∀ b o v, g.M b o = some v → g'.M b o = some v) (hN : ∀ b es, g.N b = some es → g'.N b = some es) : RV S g' v w := by
  cases h with
  | top => exact .top _
  | sc c _ h => exact .sc c _ (h.of_pure hp hM hN)
  | agg cs vals hs h => exact .agg cs vals hs fun j c v a b => (h j c v a b).of_pure (pureL_get hp a) hM hN
  | tup vs ws hs h => simp [V.pure] at hp

theorem underVs_get {n : Nat} : ∀ {vs : List V}, V.underVs n vs = true → ∀ {j : Nat} {v : V}, vs[j]? = some v → v.under n = true
  | [], _, j, v, hj => by simp at hj
  | x :: xs, h, j, v, hj => by
    simp only [V.underVs, Bool.and_eq_true] at h
    rcases j with _ | j
    · simp at hj; subst hj; exact h.1
    · exact underVs_get h.2 (by simpa using hj)

theorem underVs_of {n : Nat} : ∀ {vs : List V}, (∀ (j : Nat) v, vs[j]? = some v → v.under n = true) → V.underVs n vs = true
  | [], _ => rfl
  | x :: xs, h => by
    simp only [V.underVs, Bool.and_eq_true]
    exact ⟨h 0 x rfl, underVs_of fun j v hj => h (j + 1) v (by simpa using hj)⟩

theorem RV.cut {S : Seat} {g : Gh} {v : V} {w : Value} {n : Nat} (h : RV S g v w) (hp : v.under n = true) : RV S (g.cut n) v w := by
  induction h with
  | top => exact .top _
  | sc c _ h => exact .sc c _ (h.cut hp)
  | agg cs vals hs h => exact .agg cs vals hs fun j c v a b => (h j c v a b).cut (underL_get hp a)
  | tup vs ws hs h ih =>
    exact .tup vs ws hs fun j v w a b => ih j v w a b (underVs_get (by simpa only [V.under] using hp) a)

theorem RV.under {S : Seat} {g : Gh} {v : V} {w : Value} {n : Nat} (h : RV S g v w) (hA : ∀ r, g.A r → r < n) : v.under n = true := by
  induction h with
  | top => rfl
  | sc c _ h => exact h.under hA
  | agg cs vals hs h =>
    refine underL_of fun j c hj => ?_
    have hlt : j < vals.size := by rw [← hs]; exact (List.getElem?_eq_some_iff.1 hj).1
    exact (h j c _ hj (Array.getElem?_eq_getElem hlt)).under hA
  | tup vs ws hs h ih =>
    simp only [V.under]
    refine underVs_of fun j v hj => ?_
    have hlt : j < ws.size := by rw [← hs]; exact (List.getElem?_eq_some_iff.1 hj).1
    exact ih j v _ hj (Array.getElem?_eq_getElem hlt)

theorem RV.cells {S : Seat} {g : Gh} {v : V} {w : Value} (h : RV S g v w) (ht : v ≠ .sc .top) (ht' : ∀ vs, v ≠ .tup vs) :
    v.cells.length = w.cells.size ∧ ∀ (j : Nat) c x, v.cells[j]? = some c → w.cells[j]? = some x → RC S g c x := by
  cases h with
  | top => exact absurd rfl ht
  | sc c v h =>
    have hc : V.cells (.sc c) = [c] := by cases c <;> first | rfl | exact absurd rfl ht
    rw [hc, h.cells]
    refine ⟨rfl, fun j x y a b => ?_⟩
    cases j with
    | zero => simp at a b; subst a; subst b; exact h
    | succ j => simp at a
  | agg cs vals hs h => exact ⟨hs, h⟩
  | tup vs ws hs h => exact absurd rfl (ht' vs)

structure OwnAt (S : Seat) (g : Gh) (w : World) (es : Nat) (l : List (List C)) (b off cap : Nat) : Prop where
  rel : RC S g (.sl .shared es l) (.slice (some ⟨b, off, none⟩) l.length cap)
  blk : ∃ cs elem, w.heap[b]? = some (.cells cs elem (0, 0)) ∧ off + cap * es ≤ cs.size
  spare : ∀ o, off + l.length * es ≤ o → g.M b o = none

inductive RO (S : Seat) (g : Gh) (w : World) : C → Value → Prop
  | rc (c : C) (v : Value) (h : RC S g c v) : RO S g w c v
  | own (es : Nat) (l : List (List C)) (b off cap : Nat) (h : OwnAt S g w es l b off cap) : RO S g w (.own es l) (.slice (some ⟨b, off, none⟩) l.length cap)

inductive RT (S : Seat) (g : Gh) (w : World) : V → Value → Prop
  | rv (v : V) (x : Value) (h : RV S g v x) : RT S g w v x
  | own (es : Nat) (l : List (List C)) (b off cap : Nat) (h : OwnAt S g w es l b off cap) : RT S g w (.sc (.own es l)) (.slice (some ⟨b, off, none⟩) l.length cap)

theorem RO.unown {S : Seat} {g : Gh} {w : World} {c : C} {v : Value} (h : RO S g w c v) : RC S g (unown c) v := by
  cases h with
  | rc c v h => rw [h.unown_eq]; exact h
  | own es l b off cap h => exact h.rel

theorem RT.unown {S : Seat} {g : Gh} {w : World} {c : V} {v : Value} (h : RT S g w c v) : RV S g c.unown v := by
  cases h with
  | rv c v h => rw [h.unown_eq]; exact h
  | own es l b off cap h => exact .sc _ _ h.rel

end Go.Pm

namespace Go.Pm

def oList (x : Option Rand) : List Rand := x.toList

def Op.rands : Op → List Rand
  | .mv x => [x]
  | .pick c a b => [c, a, b]
  | .alloc _ _ => []
  | .box _ x => [x]
  | .build _ ps => ps.map (·.2.2)
  | .bslice _ _ _ ps => ps.map (·.2)
  | .bmsl _ _ _ _ ps => ps.map (·.2)
  | .load _ x => [x]
  | .loadT x => [x]
  | .store _ x v => [x, v]
  | .bin _ x y => [x, y]
  | .eqf _ _ x y => [x, y]
  | .isnil _ _ x => [x]
  | .un _ x => [x]
  | .conv _ x => [x]
  | .mkf _ _ first cap => first ++ cap
  | .mkmap _ _ _ => []
  | .slice _ x lo hi mx => x :: (lo.toList ++ hi.toList ++ mx.toList)
  | .slArr _ _ x lo hi mx => x :: (lo.toList ++ hi.toList ++ mx.toList)
  | .slStr x lo hi => x :: (lo.toList ++ hi.toList)
  | .faddr _ x => [x]
  | .field _ _ x => [x]
  | .iaddr _ x i => [x, i]
  | .iarr _ _ x i => [x, i]
  | .index _ _ _ x i => [x, i]
  | .istr x i => [x, i]
  | .lookup _ _ _ m key => [m, key]
  | .ment _ _ m key => [m, key]
  | .estore m s v => [m, s, v]
  | .mupd _ m key v => [m, key, v]
  | .ext x _ => [x]
  | .len _ x => [x]
  | .lenArr _ => []
  | .min x xs => x :: xs
  | .max x xs => x :: xs
  | .append _ x y => [x, y]
  | .appendM _ _ x y => [x, y]
  | .nilchk x => [x]
  | .call _ f args => f :: args
  | .late o => o.rands

def Rand.slot : Rand → List Nat
  | .t i => [i]
  | .tk i => [i]
  | _ => []

def Op.uses (o : Op) : List Nat := o.rands.flatMap Rand.slot

def Oper.uses (o : Oper) : List Nat := o.op.uses ++ (match o.guard with | some (g, _) => [g] | none => [])
def Oper.writes (o : Oper) : List Nat := o.dst.toList ++ o.op.takes

def Op.heapy : Op → Nat
  | .load _ _ | .lookup _ _ _ _ _ => 1
  | .len k _ => if k = 2 then 1 else 0
  | .loadT _ | .store _ _ _ | .ment _ _ _ _ | .estore _ _ _ | .mupd _ _ _ _ => 2
  | .alloc _ _ | .box _ _ | .bmsl _ _ _ _ _ | .mkmap _ _ _ | .appendM _ _ _ _ => 3
  | .call p _ _ => if p then 0 else 2
  | .late _ => 2
  | _ => 0

def Op.place : Op → Nat
  | .alloc a _ | .box a _ | .bmsl a _ _ _ _ | .mkmap a _ _ | .appendM a _ _ _ => a
  | _ => 0

def apart (a b : List Nat) : Bool := a.all fun x => !b.contains x

def pairOk (a b : Oper) : Bool :=
  apart b.writes (a.uses ++ a.writes) && apart a.writes b.uses &&
  (a.op.heapy == 0 || b.op.heapy == 0 || (a.op.heapy == 1 && b.op.heapy == 1) || (a.op.heapy == 3 && b.op.heapy == 3 && a.op.place != b.op.place) || a.conf.contains b.ix)

theorem apart_spec {a b : List Nat} (h : apart a b = true) {x : Nat} (hx : x ∈ a) : x ∉ b := by
  have := List.all_eq_true.1 h x hx
  simpa using this

theorem omap_congr {r r' : Rand → V} {x : Option Rand} (h : ∀ y ∈ x.toList, r y = r' y) : x.map r = x.map r' := by
  cases x with
  | none => rfl
  | some y => simp [h y (by simp)]

theorem lmap_congr {α : Type} {r r' : Rand → V} {l : List α} {f : α → Rand} {β : Type} {k : α → V → β} (h : ∀ y ∈ l.map f, r y = r' y) : l.map (fun p => k p (r (f p))) = l.map (fun p => k p (r' (f p))) :=
  List.map_congr_left fun p hp => by rw [h (f p) (List.mem_map.2 ⟨p, hp, rfl⟩)]

theorem eff_congr {base : Nat} {h : List Obj} {r r' : Rand → V} {o : Op} (hr : ∀ x ∈ o.rands, r x = r' x) : eff base h r o = eff base h r' o := by
  cases o with
  | build z ps => simp only [eff]; rw [lmap_congr (l := ps) (f := fun p => p.2.2) (k := fun p v => (p.1, p.2.1, v)) hr]
  | bslice es n z ps => simp only [eff]; rw [lmap_congr (l := ps) (f := fun p => p.2) (k := fun p v => (p.1, v)) hr]
  | bmsl a es n z ps => simp only [eff]; rw [lmap_congr (l := ps) (f := fun p => p.2) (k := fun p v => (p.1, v)) hr]
  | mkf id sh first cap =>
    have h1 : first.map r = first.map r' := List.map_congr_left fun p hp => hr p (by simp [Op.rands, hp])
    have h2 : cap.map r = cap.map r' := List.map_congr_left fun p hp => hr p (by simp [Op.rands, hp])
    simp only [eff, h1, h2]
  | min x xs =>
    have h1 : xs.map r = xs.map r' := List.map_congr_left fun p hp => hr p (by simp [Op.rands, hp])
    simp only [eff, h1, hr x (by simp [Op.rands])]
  | max x xs =>
    have h1 : xs.map r = xs.map r' := List.map_congr_left fun p hp => hr p (by simp [Op.rands, hp])
    simp only [eff, h1, hr x (by simp [Op.rands])]
  | slice es x lo hi mx =>
    have h1 := omap_congr (x := lo) fun y hy => hr y (by simp [Op.rands] at hy ⊢; simp [hy])
    have h2 := omap_congr (x := hi) fun y hy => hr y (by simp [Op.rands] at hy ⊢; simp [hy])
    have h3 := omap_congr (x := mx) fun y hy => hr y (by simp [Op.rands] at hy ⊢; simp [hy])
    simp only [eff, h1, h2, h3, hr x (by simp [Op.rands])]
  | slArr n es x lo hi mx =>
    have h1 := omap_congr (x := lo) fun y hy => hr y (by simp [Op.rands] at hy ⊢; simp [hy])
    have h2 := omap_congr (x := hi) fun y hy => hr y (by simp [Op.rands] at hy ⊢; simp [hy])
    have h3 := omap_congr (x := mx) fun y hy => hr y (by simp [Op.rands] at hy ⊢; simp [hy])
    simp only [eff, h1, h2, h3, hr x (by simp [Op.rands])]
  | slStr x lo hi =>
    have h1 := omap_congr (x := lo) fun y hy => hr y (by simp [Op.rands] at hy ⊢; simp [hy])
    have h2 := omap_congr (x := hi) fun y hy => hr y (by simp [Op.rands] at hy ⊢; simp [hy])
    simp only [eff, h1, h2, hr x (by simp [Op.rands])]
  | pick c a b => simp only [eff, hr c (by simp [Op.rands]), hr a (by simp [Op.rands]), hr b (by simp [Op.rands])]
  | estore m s v => simp only [eff, hr m (by simp [Op.rands]), hr s (by simp [Op.rands]), hr v (by simp [Op.rands])]
  | mupd ty m s v => simp only [eff, hr m (by simp [Op.rands]), hr s (by simp [Op.rands]), hr v (by simp [Op.rands])]
  | store n x v => simp only [eff, hr x (by simp [Op.rands]), hr v (by simp [Op.rands])]
  | bin op x v => simp only [eff, hr x (by simp [Op.rands]), hr v (by simp [Op.rands])]
  | eqf neg ty x v => simp only [eff, hr x (by simp [Op.rands]), hr v (by simp [Op.rands])]
  | iaddr es x v => simp only [eff, hr x (by simp [Op.rands]), hr v (by simp [Op.rands])]
  | iarr len es x v => simp only [eff, hr x (by simp [Op.rands]), hr v (by simp [Op.rands])]
  | index len es n x v => simp only [eff, hr x (by simp [Op.rands]), hr v (by simp [Op.rands])]
  | istr x v => simp only [eff, hr x (by simp [Op.rands]), hr v (by simp [Op.rands])]
  | lookup ok ty z x v => simp only [eff, hr x (by simp [Op.rands]), hr v (by simp [Op.rands])]
  | ment ty z x v => simp only [eff, hr x (by simp [Op.rands]), hr v (by simp [Op.rands])]
  | append es x v => simp only [eff, hr x (by simp [Op.rands]), hr v (by simp [Op.rands])]
  | appendM a es x v => simp only [eff, hr x (by simp [Op.rands]), hr v (by simp [Op.rands])]
  | alloc a z => rfl
  | mkmap a ka va => rfl
  | lenArr n => rfl
  | call p f args => rfl
  | late o => rfl
  | mv x => simp only [eff, hr x (by simp [Op.rands])]
  | box a x => simp only [eff, hr x (by simp [Op.rands])]
  | load n x => simp only [eff, hr x (by simp [Op.rands])]
  | loadT x => simp only [eff, hr x (by simp [Op.rands])]
  | isnil kd neg x => simp only [eff, hr x (by simp [Op.rands])]
  | un op x => simp only [eff, hr x (by simp [Op.rands])]
  | conv k x => simp only [eff, hr x (by simp [Op.rands])]
  | faddr off x => simp only [eff, hr x (by simp [Op.rands])]
  | field off n x => simp only [eff, hr x (by simp [Op.rands])]
  | ext x i => simp only [eff, hr x (by simp [Op.rands])]
  | len k x => simp only [eff, hr x (by simp [Op.rands])]
  | nilchk x => simp only [eff, hr x (by simp [Op.rands])]

theorem perform_congr {K : Calls1} {base : Nat} {h : List Obj} {r r' : Rand → V} {o : Op} (hr : ∀ x ∈ o.rands, r x = r' x) : perform K base h r o = perform K base h r' o := by
  cases o with
  | call p f args =>
    have h1 : args.map r = args.map r' := List.map_congr_left fun p hp => hr p (by simp [Op.rands, hp])
    simp only [perform, calls, h1, hr f (by simp [Op.rands])]
  | late o => simp only [perform]; rw [eff_congr (o := o) hr]
  | _ => simp only [perform]; rw [eff_congr hr]

theorem acc_congr {base : Nat} {r r' : Rand → V} {o : Op} (hr : ∀ x ∈ o.rands, r x = r' x) : acc base r o = acc base r' o := by
  cases o with
  | load n x => simp only [acc, hr x (by simp [Op.rands])]
  | loadT x => simp only [acc, hr x (by simp [Op.rands])]
  | store n x v => simp only [acc, hr x (by simp [Op.rands])]
  | lookup ok ty z m key => simp only [acc, hr m (by simp [Op.rands]), hr key (by simp [Op.rands])]
  | ment ty z m key => simp only [acc, hr m (by simp [Op.rands]), hr key (by simp [Op.rands])]
  | estore m s v => simp only [acc, hr m (by simp [Op.rands])]
  | mupd ty m key v => simp only [acc, hr m (by simp [Op.rands])]
  | len k x => simp only [acc, hr x (by simp [Op.rands])]
  | _ => rfl

theorem eff_local {base : Nat} {h h' : List Obj} {r : Rand → V} {o : Op} (hh : ∀ p ∈ (acc base r o).refs, h'[p]? = h[p]?) : eff base h' r o = eff base h r o := by
  have fr : ∀ a, (base + a) ∈ (acc base r o).refs → isFree h' (base + a) = isFree h (base + a) := fun a ha => by unfold isFree; rw [hh _ ha]
  cases o with
  | alloc a z => simp only [eff, fr a (by simp [acc])]
  | box a x => simp only [eff, fr a (by simp [acc])]
  | bmsl a es n z ps => simp only [eff, fr a (by simp [acc])]
  | mkmap a ka va => simp only [eff, fr a (by simp [acc])]
  | appendM a es x y => simp only [eff, fr a (by simp [acc])]
  | load n x =>
    simp only [eff]
    split
    · rename_i p off hp; rw [hh p (by simp [acc, hp, refsOf])]
    · rfl
    · rfl
  | loadT x =>
    simp only [eff]
    split
    · rename_i p off hp; rw [hh p (by simp [acc, hp, refsOf])]
    · rfl
  | store n x v =>
    simp only [eff]
    split
    · rename_i p off hp; rw [hh p (by simp [acc, hp, refsOf])]
    · rfl
  | lookup ok ty z m key =>
    have : entries h' ok ty z (r key) (r m) = entries h ok ty z (r key) (r m) := by
      unfold entries
      split
      · rename_i p hp; rw [hh p (by simp [acc, hp, refsOf])]
      · rfl
      · rfl
    simp only [eff, this]
  | ment ty z m key =>
    simp only [eff]
    split
    · rename_i p hp; rw [hh p (by simp [acc, hp, refsOf])]
    · rfl
  | estore m s v =>
    simp only [eff]
    split
    · rename_i p q i hp hq; rw [hh p (by simp [acc, hp, refsOf])]
    · rfl
  | mupd ty m key v =>
    simp only [eff]
    split
    · rename_i p hp; rw [hh p (by simp [acc, hp, refsOf])]
    · rfl
  | len k x =>
    by_cases hk : k = 2
    · subst hk
      simp only [eff]
      generalize hx : r x = rx at hh
      cases rx with
      | sc c =>
        cases c with
        | map p =>
          have := hh p (by simp [acc, hx, refsOf])
          simp only [this]
        | _ => rfl
      | _ => rfl
    · simp only [eff]
      split <;> first | rfl | omega
  | _ => rfl

theorem eff_writes {base : Nat} {h : List Obj} {r : Rand → V} {o : Op} {v : V} {ws : List (Nat × Obj)} (e : eff base h r o = some (v, ws)) :
    ws = [] ∨ ((acc base r o).w = true ∧ ∃ p ob, ws = [(p, ob)] ∧ p ∈ (acc base r o).refs) := by
  cases o with
  | alloc a z => simp only [eff] at e; split at e <;> simp only [Option.some.injEq, Prod.mk.injEq, reduceCtorEq] at e; exact .inr ⟨rfl, _, _, e.2.symm, by simp [acc]⟩
  | box a x => simp only [eff] at e; split at e <;> simp only [Option.some.injEq, Prod.mk.injEq, reduceCtorEq] at e; exact .inr ⟨rfl, _, _, e.2.symm, by simp [acc]⟩
  | bmsl a es n z ps =>
    simp only [eff] at e
    repeat' split at e
    all_goals first | (cases e; done) | (simp only [Option.some.injEq, Prod.mk.injEq] at e; exact .inr ⟨rfl, _, _, e.2.symm, by simp [acc]⟩)
  | mkmap a ka va => simp only [eff] at e; split at e <;> simp only [Option.some.injEq, Prod.mk.injEq, reduceCtorEq] at e; exact .inr ⟨rfl, _, _, e.2.symm, by simp [acc]⟩
  | appendM a es x y =>
    simp only [eff] at e
    repeat' split at e
    all_goals first | (cases e; done) | (simp only [Option.some.injEq, Prod.mk.injEq] at e; exact .inr ⟨rfl, _, _, e.2.symm, by simp [acc]⟩) | (simp only [Option.some.injEq, Prod.mk.injEq] at e; exact .inl e.2.symm)
  | loadT x =>
    simp only [eff] at e
    split at e
    · rename_i p off hp
      repeat' split at e
      all_goals first | (cases e; done) | (simp only [Option.some.injEq, Prod.mk.injEq] at e; exact .inr ⟨rfl, _, _, e.2.symm, by simp [acc, hp, refsOf]⟩)
    · cases e
  | store n x v =>
    simp only [eff] at e
    split at e
    · rename_i p off hp
      repeat' split at e
      all_goals first | (cases e; done) | (simp only [Option.some.injEq, Prod.mk.injEq] at e; exact .inr ⟨rfl, _, _, e.2.symm, by simp [acc, hp, refsOf]⟩)
    · cases e
  | ment ty z m key =>
    simp only [eff] at e
    split at e
    · rename_i p hp
      repeat' split at e
      all_goals first | (cases e; done) | (simp only [Option.some.injEq, Prod.mk.injEq] at e; exact .inr ⟨rfl, _, _, e.2.symm, by simp [acc, hp, refsOf]⟩) | (simp only [Option.some.injEq, Prod.mk.injEq] at e; exact .inl e.2.symm)
    · cases e
  | estore m s v =>
    simp only [eff] at e
    split at e
    · rename_i p q i hp hq
      repeat' split at e
      all_goals first | (cases e; done) | (simp only [Option.some.injEq, Prod.mk.injEq] at e; exact .inr ⟨rfl, _, _, e.2.symm, by simp [acc, hp, refsOf]⟩)
    · cases e
  | mupd ty m key v =>
    simp only [eff] at e
    split at e
    · rename_i p hp
      repeat' split at e
      all_goals first | (cases e; done) | (simp only [Option.some.injEq, Prod.mk.injEq] at e; exact .inr ⟨rfl, _, _, e.2.symm, by simp [acc, hp, refsOf]⟩)
    · cases e
  | load n x =>
    left
    simp only [eff] at e
    repeat' split at e
    all_goals first | (cases e; done) | (simp only [Option.map_eq_some_iff, Prod.mk.injEq] at e; obtain ⟨_, _, _, e⟩ := e; exact e.symm)
  | lookup ok ty z m key =>
    left
    simp only [eff] at e
    repeat' split at e
    all_goals first | (cases e; done) | (simp only [Option.some.injEq, Prod.mk.injEq] at e; exact e.2.symm) | (simp only [Option.map_eq_some_iff, Prod.mk.injEq] at e; obtain ⟨_, _, _, e⟩ := e; exact e.symm)
  | mv x => left; simp only [eff, Option.some.injEq, Prod.mk.injEq] at e; exact e.2.symm
  | lenArr n => left; simp only [eff, Option.some.injEq, Prod.mk.injEq] at e; exact e.2.symm
  | call p f args => simp [eff] at e
  | late o => simp [eff] at e
  | _ =>
    left
    simp only [eff, one] at e
    repeat' split at e
    all_goals first | (cases e; done) | (simp only [Option.some.injEq, Prod.mk.injEq] at e; exact e.2.symm) | (simp only [Option.map_eq_some_iff, Prod.mk.injEq] at e; obtain ⟨_, _, _, e⟩ := e; exact e.symm)

end Go.Pm

namespace Go.Pm

structure Eqv (s s' : St) : Prop where
  h : s.h = s'.h
  t : ∀ i, get s.t i = get s'.t i

theorem Eqv.refl (s : St) : Eqv s s := ⟨rfl, fun _ => rfl⟩
theorem Eqv.symm {s s' : St} (h : Eqv s s') : Eqv s' s := ⟨h.h.symm, fun i => (h.t i).symm⟩
theorem Eqv.trans {a b c : St} (h : Eqv a b) (k : Eqv b c) : Eqv a c := ⟨h.h.trans k.h, fun i => (h.t i).trans (k.t i)⟩

theorem getPut (dst : Option Nat) (v : V) (t : List (Nat × V)) (i : Nat) : get (put1 dst v t) i = if dst = some i then v else get t i := by
  cases dst with
  | none => simp [put1]
  | some d => simp only [put1, get, Option.some.injEq]

theorem unown2 (v : V) : v.unown.unown = v.unown := by
  cases v with
  | sc c => cases c <;> rfl
  | agg => rfl
  | tup => rfl

theorem getDrop (l : List Nat) : ∀ (t : List (Nat × V)) (j : Nat), get (drop l t) j = if j ∈ l then (get t j).unown else get t j := by
  unfold drop
  induction l with
  | nil => intro t j; simp
  | cons i l ih =>
    intro t j
    simp only [List.foldl_cons]
    rw [ih]
    simp only [get, List.mem_cons]
    by_cases hj : j ∈ l
    · by_cases hij : i = j
      · subst hij; simp [hj, unown2]
      · simp [hj, hij]
    · by_cases hij : i = j
      · subst hij; simp [hj]
      · have : ¬ (j = i) := fun e => hij e.symm
        simp [hj, hij, this]

variable {Γ : Env} {K : Calls1} {base : Nat}

theorem Eqv.rd {s s' : St} (e : Eqv s s') : rd Γ s.t = rd Γ s'.t := by
  funext x
  cases x with
  | t i => simp only [Pm.rd, e.t]
  | tk i => simp only [Pm.rd, e.t]
  | _ => rfl

theorem Eqv.wanted {s s' : St} (e : Eqv s s') (o : Oper) : wanted o s.t = wanted o s'.t := by
  unfold Pm.wanted
  split
  · rfl
  · rw [e.t]

theorem Eqv.step {s s' s1 : St} (e : Eqv s s') {o : Oper} (h : step Γ K base o s = some s1) : ∃ s1', step Γ K base o s' = some s1' ∧ Eqv s1 s1' := by
  unfold Pm.step at h ⊢
  rw [← e.wanted o]
  split at h
  · cases h
  · simp only [Option.some.injEq] at h
    subst h
    exact ⟨_, rfl, e.h, fun i => by simp only [getPut, e.t]⟩
  · rw [← e.rd, ← e.h]
    split at h
    · cases h
    · simp only [Option.some.injEq] at h
      subst h
      exact ⟨_, rfl, rfl, fun i => by simp only [getPut, getDrop, e.t]⟩

theorem step_get {s s1 : St} {o : Oper} (h : step Γ K base o s = some s1) {x : Nat} (hx : x ∉ o.writes) : get s1.t x = get s.t x := by
  unfold Pm.step at h
  have h1 : o.dst ≠ some x := fun e => hx (by simp [Oper.writes, e])
  have h2 : x ∉ o.op.takes := fun e => hx (by simp [Oper.writes, e])
  split at h
  · cases h
  · simp only [Option.some.injEq] at h
    subst h
    simp only [getPut, if_neg h1]
  · split at h
    · cases h
    · simp only [Option.some.injEq] at h
      subst h
      simp only [getPut, getDrop, if_neg h1, if_neg h2]

theorem rd_same {t t' : List (Nat × V)} {x : Rand} (h : ∀ i ∈ x.slot, get t i = get t' i) : rd Γ t x = rd Γ t' x := by
  cases x with
  | t i => simp only [rd, h i (by simp [Rand.slot])]
  | tk i => simp only [rd, h i (by simp [Rand.slot])]
  | _ => rfl

theorem wanted_same {t t' : List (Nat × V)} {o : Oper} (h : ∀ i ∈ o.uses, get t i = get t' i) : wanted o t = wanted o t' := by
  unfold wanted
  split
  · rfl
  · rename_i g w hg
    rw [h g (by simp [Oper.uses, hg])]

theorem rands_same {t t' : List (Nat × V)} {o : Oper} (h : ∀ i ∈ o.uses, get t i = get t' i) : ∀ x ∈ o.op.rands, rd Γ t x = rd Γ t' x :=
  fun x hx => rd_same fun i hi => h i (by simp only [Oper.uses, Op.uses, List.mem_append, List.mem_flatMap]; exact .inl ⟨x, hx, hi⟩)

/-! ### Objects -/

def Op.plain : Op → Bool
  | .call _ _ _ | .late _ => false
  | _ => true

theorem heapy0 {h h' : List Obj} {r : Rand → V} {o : Op} {v : V} (h0 : o.heapy = 0) (e : perform K base h r o = some (v, h')) : h' = h ∧ ∀ k, perform K base k r o = some (v, k) := by
  have gen : o.plain = true → (acc base r o).refs = [] → (acc base r o).w = false → h' = h ∧ ∀ k, perform K base k r o = some (v, k) := by
    intro hc hr hw
    have hp : ∀ k, perform K base k r o = (eff base k r o).map fun p => (p.1, setObjs k p.2) := fun k => by cases o <;> first | rfl | (simp [Op.plain] at hc; done)
    rw [hp, Option.map_eq_some_iff] at e
    obtain ⟨⟨v', ws⟩, he, e⟩ := e
    simp only [Prod.mk.injEq] at e
    obtain ⟨rfl, rfl⟩ := e
    rcases eff_writes he with rfl | ⟨h1, _⟩
    · refine ⟨rfl, fun k => ?_⟩
      rw [hp, eff_local (h := h) (by rw [hr]; simp), he]
      rfl
    · rw [hw] at h1; cases h1
  cases o with
  | call p f args =>
    cases p with
    | false => simp [Op.heapy] at h0
    | true =>
      simp only [perform, calls] at e ⊢
      split at e
      · cases e
      · rename_i fk vs ht
        simp only [if_true] at e ⊢
        split at e
        · rename_i hall
          simp only [Option.bind_eq_some_iff] at e
          obtain ⟨⟨v0, h0⟩, hq, e⟩ := e
          unfold alone at e
          split at e
          · rename_i he
            dsimp only at he
            subst he
            simp only [Option.some.injEq, Prod.mk.injEq] at e
            obtain ⟨rfl, rfl⟩ := e
            refine ⟨rfl, fun k => ?_⟩
            rw [if_pos hall, hq]
            rfl
          · cases e
        · cases e
  | len k x =>
    refine gen rfl ?_ ?_
    · by_cases hk : k = 2
      · simp [Op.heapy, hk] at h0
      · simp [acc, hk]
    · by_cases hk : k = 2
      · simp [Op.heapy, hk] at h0
      · simp [acc, hk]
  | _ => first | exact gen rfl rfl rfl | (simp [Op.heapy] at h0; done)

theorem perform_eff {h : List Obj} {r : Rand → V} {o : Op} (hc : o.plain = true) : perform K base h r o = (eff base h r o).map fun p => (p.1, setObjs h p.2) := by
  cases o <;> first | rfl | (simp [Op.plain] at hc; done)

theorem setObjs_get {h : List Obj} {ws : List (Nat × Obj)} {p : Nat} (hp : ∀ q ∈ ws, q.1 ≠ p) : (setObjs h ws)[p]? = h[p]? := by
  unfold setObjs
  induction ws generalizing h with
  | nil => rfl
  | cons q ws ih =>
    rw [List.foldl_cons, ih (fun x hx => hp x (by simp [hx])), List.getElem?_set_ne (hp q (by simp))]

theorem set_comm' {h : List Obj} {p q : Nat} {a b : Obj} (hpq : p ≠ q) : (h.set p a).set q b = (h.set q b).set p a := (List.set_comm a b hpq)

theorem eff_swap {h h1 h2 : List Obj} {rj ri : Rand → V} {oj oi : Op} {vj vi : V} (cj : oj.plain = true) (ci : oi.plain = true)
    (hj : perform K base h rj oj = some (vj, h1)) (hi : perform K base h1 ri oi = some (vi, h2))
    (hd : (∀ p ∈ (acc base rj oj).refs, p ∉ (acc base ri oi).refs) ∨ ((acc base rj oj).w = false ∧ (acc base ri oi).w = false)) :
    ∃ h1', perform K base h ri oi = some (vi, h1') ∧ perform K base h1' rj oj = some (vj, h2) := by
  rw [perform_eff cj, Option.map_eq_some_iff] at hj
  rw [perform_eff ci, Option.map_eq_some_iff] at hi
  obtain ⟨⟨vj', wj⟩, ej, e1⟩ := hj
  obtain ⟨⟨vi', wi⟩, ei, e2⟩ := hi
  simp only [Prod.mk.injEq] at e1 e2
  obtain ⟨rfl, rfl⟩ := e1
  obtain ⟨rfl, rfl⟩ := e2
  rcases hd with hd | ⟨h1, h2⟩
  · have wsj := eff_writes ej
    have agree1 : ∀ p ∈ (acc base ri oi).refs, (setObjs h wj)[p]? = h[p]? := fun p hp => setObjs_get fun q hq => by
      rcases wsj with rfl | ⟨_, p', ob, rfl, hp'⟩
      · simp at hq
      · simp at hq; subst hq; rintro rfl; exact hd _ hp' hp
    have ei' : eff base h ri oi = some (vi', wi) := by rw [← eff_local agree1]; exact ei
    have wsi := eff_writes ei'
    have agree2 : ∀ p ∈ (acc base rj oj).refs, (setObjs h wi)[p]? = h[p]? := fun p hp => setObjs_get fun q hq => by
      rcases wsi with rfl | ⟨_, p', ob, rfl, hp'⟩
      · simp at hq
      · simp at hq; subst hq; rintro rfl; exact hd _ hp hp'
    refine ⟨setObjs h wi, by rw [perform_eff ci, ei']; rfl, ?_⟩
    rw [perform_eff cj, eff_local agree2, ej]
    simp only [Option.map_some, Option.some.injEq, Prod.mk.injEq, true_and]
    rcases wsj with rfl | ⟨_, p', ob, rfl, hp'⟩
    · rfl
    · rcases wsi with rfl | ⟨_, p2, ob2, rfl, hp2⟩
      · rfl
      · simp only [setObjs, List.foldl_cons, List.foldl_nil]
        exact set_comm' (by rintro rfl; exact hd _ hp' hp2)
  · have wj0 : wj = [] := by rcases eff_writes ej with h | ⟨h, _⟩; exact h; rw [h1] at h; cases h
    subst wj0
    have ei' : eff base h ri oi = some (vi', wi) := ei
    have wi0 : wi = [] := by rcases eff_writes ei' with h | ⟨h, _⟩; exact h; rw [h2] at h; cases h
    subst wi0
    exact ⟨h, by rw [perform_eff ci, ei']; rfl, by rw [perform_eff cj, ej]; rfl⟩

theorem ment_entries {h : List Obj} {r : Rand → V} {ty' : KT} {z' : V} {m' key' : Rand} {v' : V} {ws' : List (Nat × Obj)} (e : eff base h r (.ment ty' z' m' key') = some (v', ws')) {ty : KT} {z key m : V}
    (hk : (keyEq ty.tags key.cells (r key').cells).isSome = true) (hz : cellsEq z.cells z'.cells = some true) : entries (setObjs h ws') false ty z key m = entries h false ty z key m := by
  simp only [eff] at e
  split at e
  · rename_i p hp
    split at e
    · rename_i ka va l hobj
      split at e
      · cases e
      · split at e
        · simp only [Option.some.injEq, Prod.mk.injEq] at e
          obtain ⟨_, rfl⟩ := e
          rfl
        · split at e
          · simp only [Option.some.injEq, Prod.mk.injEq] at e
            obtain ⟨_, rfl⟩ := e
            have hlt : p < h.length := (List.getElem?_eq_some_iff.1 hobj).1
            unfold entries
            split
            · rename_i p'
              by_cases hpp : p' = p
              · subst hpp
                have : (setObjs h [(p', .map ka va l (some ((r key').cells, z'.cells)))])[p']? = some (.map ka va l (some ((r key').cells, z'.cells))) := by simp [setObjs, hlt]
                rw [this, hobj]
                simp only [Bool.false_eq_true, if_false]
                split
                · rfl
                · rw [if_pos hz]
                · rename_i hn; rw [hn] at hk; cases hk
              · have : (setObjs h [(p, .map ka va l (some ((r key').cells, z'.cells)))])[p']? = h[p']? := setObjs_get (by simp; exact fun e => hpp e.symm)
                rw [this]
            · rfl
            · rfl
          · cases e
        · cases e
    · cases e
  · cases e

theorem kind1 {r : Rand → V} {o : Op} (h : (acc base r o).kind = 1) : ∃ ty z m key, o = .lookup false ty z m key := by
  cases o with
  | lookup ok ty z m key =>
    cases ok with
    | false => exact ⟨ty, z, m, key, rfl⟩
    | true => simp [acc] at h
  | len k x => by_cases hk : k = 2 <;> simp [acc, hk] at h
  | call p f as => cases p <;> simp [acc] at h
  | _ => simp [acc] at h

theorem kind2 {r : Rand → V} {o : Op} (h : (acc base r o).kind = 2) : ∃ ty z m key, o = .ment ty z m key := by
  cases o with
  | ment ty z m key => exact ⟨ty, z, m, key, rfl⟩
  | lookup ok ty z m key => cases ok <;> simp [acc] at h
  | len k x => by_cases hk : k = 2 <;> simp [acc, hk] at h
  | call p f as => cases p <;> simp [acc] at h
  | _ => simp [acc] at h

theorem kind3 {r : Rand → V} {o : Op} (h : (acc base r o).kind = 3) : ∃ x, o = .loadT x ∧ (acc base r o).ty = offOf (r x) := by
  cases o with
  | loadT x => exact ⟨x, rfl, rfl⟩
  | lookup ok ty z m key => cases ok <;> simp [acc] at h
  | len k x => by_cases hk : k = 2 <;> simp [acc, hk] at h
  | call p f as => cases p <;> simp [acc] at h
  | _ => simp [acc] at h

theorem loadT_perform {h h' : List Obj} {r : Rand → V} {x : Rand} {v : V} (e : perform K base h r (.loadT x) = some (v, h')) :
    ∃ p off cs c, r x = .sc (.ptr p off) ∧ h[p]? = some (.var cs) ∧ cs[off]? = some c ∧ v = .sc c ∧ h' = h.set p (.var (cs.set off (unown c))) := by
  rw [perform_eff rfl, Option.map_eq_some_iff] at e
  obtain ⟨⟨v', ws⟩, he, e⟩ := e
  simp only [Prod.mk.injEq] at e
  obtain ⟨rfl, rfl⟩ := e
  simp only [eff] at he
  cases hx : r x with
  | sc c =>
    cases c with
    | ptr p off =>
      rw [hx] at he
      simp only at he
      cases hp : h[p]? with
      | none => rw [hp] at he; cases he
      | some o =>
        cases o with
        | var cs =>
          rw [hp] at he
          simp only at he
          cases hc : cs[off]? with
          | none => rw [hc] at he; cases he
          | some c =>
            rw [hc] at he
            simp only [Option.some.injEq, Prod.mk.injEq] at he
            obtain ⟨rfl, rfl⟩ := he
            exact ⟨p, off, cs, c, rfl, hp, hc, rfl, rfl⟩
        | _ => rw [hp] at he; cases he
    | _ => rw [hx] at he; cases he
  | _ => rw [hx] at he; cases he
theorem loadT_do {h : List Obj} {r : Rand → V} {x : Rand} {p off : Nat} {cs : List C} {c : C} (hx : r x = .sc (.ptr p off)) (hp : h[p]? = some (.var cs)) (hc : cs[off]? = some c) :
    perform K base h r (.loadT x) = some (.sc c, h.set p (.var (cs.set off (unown c)))) := by
  rw [perform_eff rfl]
  simp only [eff, hx, hp, hc]
  rfl

theorem eff_lookup {h h' : List Obj} {r : Rand → V} {ty : KT} {z : V} {m key : Rand} (e : entries h' false ty z (r key) (r m) = entries h false ty z (r key) (r m)) :
    eff base h' r (.lookup false ty z m key) = eff base h r (.lookup false ty z m key) := by simp only [eff, e]

theorem lookup_perform {h h' : List Obj} {r : Rand → V} {ty : KT} {z : V} {m key : Rand} {v : V} (e : perform K base h r (.lookup false ty z m key) = some (v, h')) :
    h' = h ∧ eff base h r (.lookup false ty z m key) = some (v, []) := by
  rw [perform_eff rfl, Option.map_eq_some_iff] at e
  obtain ⟨⟨v', ws⟩, he, e⟩ := e
  simp only [Prod.mk.injEq] at e
  obtain ⟨rfl, rfl⟩ := e
  rcases eff_writes he with rfl | ⟨h1, _⟩
  · exact ⟨rfl, he⟩
  · simp [acc] at h1

theorem call_acc {r : Rand → V} {o : Op} (h : (acc base r o).all = false) (hw : o.heapy ≠ 0) : o.plain = true := by
  cases o with
  | call p f as => cases p <;> simp [acc, Op.heapy] at h hw
  | late o => simp [acc] at h
  | _ => rfl

theorem free_swap {h h1 h2 : List Obj} {rj ri : Rand → V} {oj oi : Op} {vj vi : V} (nj : oj.heapy ≠ 0) (ni : oi.heapy ≠ 0)
    (hj : perform K base h rj oj = some (vj, h1)) (hi : perform K base h1 ri oi = some (vi, h2)) (hf : Acc.free (acc base rj oj) (acc base ri oi) = true) :
    ∃ h1', perform K base h ri oi = some (vi, h1') ∧ perform K base h1' rj oj = some (vj, h2) := by
  have callw : ∀ {r : Rand → V} {o : Op}, o.heapy ≠ 0 → (acc base r o).w = false → o.plain = true := by
    intro r o hn hw
    cases o with
    | call p f as => cases p <;> simp [acc, Op.heapy] at hw hn
    | late o => simp [acc] at hw
    | _ => rfl
  have empty : ∀ {r : Rand → V} {o : Op}, o.heapy ≠ 0 → (acc base r o).all = false → (acc base r o).refs = [] → (acc base r o).w = false → ∀ {h h' v}, perform K base h r o = some (v, h') → h' = h ∧ ∀ k, perform K base k r o = some (v, k) := by
    intro r o hn hall hr hw h h' v e
    have hc := call_acc hall hn
    rw [perform_eff hc, Option.map_eq_some_iff] at e
    obtain ⟨⟨v', ws⟩, he, e⟩ := e
    simp only [Prod.mk.injEq] at e
    obtain ⟨rfl, rfl⟩ := e
    rcases eff_writes he with rfl | ⟨h1, _⟩
    · refine ⟨rfl, fun k => ?_⟩
      rw [perform_eff hc, eff_local (h := h) (by rw [hr]; simp), he]
      rfl
    · rw [hw] at h1; cases h1
  simp only [Acc.free, Bool.or_eq_true, Bool.and_eq_true, Bool.not_eq_true', beq_iff_eq, List.all_eq_true, decide_eq_true_eq, List.isEmpty_iff] at hf
  rcases hf with (((((hf | hf) | hf) | hf) | hf) | hf) | hf
  · exact eff_swap (callw nj hf.1) (callw ni hf.2) hj hi (.inr hf)
  · obtain ⟨⟨⟨⟨k1, k2⟩, k3⟩, k4⟩, k5⟩ := hf
    obtain ⟨ty, z, m, key, rfl⟩ := kind1 k1
    obtain ⟨ty', z', m', key', rfl⟩ := kind2 k2
    obtain ⟨rfl, ej⟩ := lookup_perform hj
    rw [perform_eff rfl, Option.map_eq_some_iff] at hi
    obtain ⟨⟨vi', wi⟩, ei, e⟩ := hi
    simp only [Prod.mk.injEq] at e
    obtain ⟨rfl, rfl⟩ := e
    refine ⟨setObjs h1 wi, by rw [perform_eff rfl, ei]; rfl, ?_⟩
    rw [perform_eff rfl, eff_lookup (ment_entries ei k4 k5), ej]
    rfl
  · obtain ⟨⟨⟨⟨k1, k2⟩, k3⟩, k4⟩, k5⟩ := hf
    obtain ⟨ty', z', m', key', rfl⟩ := kind2 k1
    obtain ⟨ty, z, m, key, rfl⟩ := kind1 k2
    have k3' : ty'.tags = ty.tags := k3
    obtain ⟨rfl, ei⟩ := lookup_perform hi
    rw [perform_eff rfl, Option.map_eq_some_iff] at hj
    obtain ⟨⟨vj', wj⟩, ej, e⟩ := hj
    simp only [Prod.mk.injEq] at e
    obtain ⟨rfl, rfl⟩ := e
    have k4' : (keyEq ty.tags (ri key).cells (rj key').cells).isSome = true := by rw [← k3']; exact k4
    have ei' : eff base h ri (.lookup false ty z m key) = some (vi, []) := by rw [← eff_lookup (ment_entries ej k4' k5)]; exact ei
    exact ⟨h, by rw [perform_eff rfl, ei']; rfl, by rw [perform_eff rfl, ej]; rfl⟩
  · obtain ⟨⟨k1, k2⟩, k3⟩ := hf
    obtain ⟨x, rfl, t1⟩ := kind3 k1
    obtain ⟨y, rfl, t2⟩ := kind3 k2
    rw [t1, t2] at k3
    obtain ⟨p, off, cs, c, hx, hp, hc, rfl, rfl⟩ := loadT_perform hj
    obtain ⟨q, off', cs', c', hy, hq, hc', rfl, rfl⟩ := loadT_perform hi
    rw [hx, hy] at k3
    have hoff : off ≠ off' := fun e => k3 (by simp [offOf, e])
    by_cases hpq : p = q
    · subst hpq
      have hlt : p < h.length := (List.getElem?_eq_some_iff.1 hp).1
      rw [List.getElem?_set_self hlt] at hq
      simp only [Option.some.injEq, Obj.var.injEq] at hq
      subst hq
      rw [List.getElem?_set_ne hoff] at hc'
      refine ⟨_, loadT_do hy hp hc', ?_⟩
      rw [loadT_do (cs := cs.set off' (unown c')) hx (List.getElem?_set_self hlt) (by rw [List.getElem?_set_ne (fun e => hoff e.symm)]; exact hc)]
      rw [List.set_set, List.set_set, List.set_comm _ _ hoff]
    · rw [List.getElem?_set_ne hpq] at hq
      refine ⟨_, loadT_do hy hq hc', ?_⟩
      rw [loadT_do hx (by rw [List.getElem?_set_ne (fun e => hpq e.symm)]; exact hp) hc]
      rw [List.set_comm _ _ hpq]
  · obtain ⟨⟨k1, k2⟩, k3⟩ := hf
    exact eff_swap (call_acc k1 nj) (call_acc k2 ni) hj hi (.inl fun p hp hq => k3 p hp p hq rfl)
  · obtain ⟨⟨k1, k2⟩, k3⟩ := hf
    obtain ⟨rfl, hk⟩ := empty nj k1 k2 k3 hj
    exact ⟨h2, hi, hk h2⟩
  · obtain ⟨⟨k1, k2⟩, k3⟩ := hf
    obtain ⟨rfl, hk⟩ := empty ni k1 k2 k3 hi
    exact ⟨h, hk h, hj⟩

theorem place_acc {r : Rand → V} {o : Op} (h : o.heapy = 3) : (acc base r o).refs = [base + o.place] ∧ (acc base r o).all = false := by
  cases o with
  | len k x => by_cases hk : k = 2 <;> simp [Op.heapy, hk] at h
  | call p f as => cases p <;> simp [Op.heapy] at h
  | _ => first | exact ⟨rfl, rfl⟩ | (simp [Op.heapy] at h; done)

theorem read_acc {r : Rand → V} {o : Op} (h : o.heapy = 1) : (acc base r o).w = false ∧ o.plain = true := by
  cases o with
  | len k x => by_cases hk : k = 2 <;> simp [Op.heapy, acc, hk, Op.plain] at h ⊢
  | call p f as => cases p <;> simp [Op.heapy] at h
  | _ => first | exact ⟨rfl, rfl⟩ | (simp [Op.heapy] at h; done)

theorem step_swap {oj oi : Oper} {s s1 s2 : St} (hp : pairOk oi oj = true) (hj : step Γ K base oj s = some s1) (hi : step Γ K base oi s1 = some s2)
    (hfree : oi.conf.contains oj.ix = true → wanted oj s.t = some true → wanted oi s1.t = some true → Acc.free (acc base (rd Γ s.t) oj.op) (acc base (rd Γ s1.t) oi.op) = true) :
    ∃ s1' s2', step Γ K base oi s = some s1' ∧ step Γ K base oj s1' = some s2' ∧ Eqv s2 s2' ∧ wanted oi s.t = wanted oi s1.t ∧ acc base (rd Γ s.t) oi.op = acc base (rd Γ s1.t) oi.op ∧
      wanted oj s1'.t = wanted oj s.t ∧ acc base (rd Γ s1'.t) oj.op = acc base (rd Γ s.t) oj.op := by
  simp only [pairOk, Bool.and_eq_true] at hp
  obtain ⟨⟨p1, p2⟩, p3⟩ := hp
  have ui : ∀ x ∈ oi.uses, get s1.t x = get s.t x := fun x hx => step_get hj fun h => apart_spec p1 h (by simp [hx])
  have wi : wanted oi s.t = wanted oi s1.t := (wanted_same ui).symm
  have ri : ∀ x ∈ oi.op.rands, rd Γ s.t x = rd Γ s1.t x := fun x hx => (rands_same ui x hx).symm
  have ai : acc base (rd Γ s.t) oi.op = acc base (rd Γ s1.t) oi.op := acc_congr ri
  -- the later one's step from the first state
  have mk : ∀ {s1' : St}, step Γ K base oi s = some s1' → (∀ x ∈ oj.uses, get s1'.t x = get s.t x) ∧ wanted oj s1'.t = wanted oj s.t ∧ acc base (rd Γ s1'.t) oj.op = acc base (rd Γ s.t) oj.op := fun h1 => by
    have uj : ∀ x ∈ oj.uses, _ := fun x hx => step_get h1 fun h => apart_spec p2 h hx
    exact ⟨uj, wanted_same uj, acc_congr (rands_same uj)⟩
  have slots : ∀ {dj di : Option Nat} {vj vi : V} {tj ti : List Nat}, dj = oj.dst → di = oi.dst → (∀ x ∈ tj, x ∈ oj.op.takes) → (∀ x ∈ ti, x ∈ oi.op.takes) → ∀ x,
      get (put1 di vi (drop ti (put1 dj vj (drop tj s.t)))) x = get (put1 dj vj (drop tj (put1 di vi (drop ti s.t)))) x := by
    intro dj di vj vi tj ti e1 e2 h1 h2 x
    simp only [getPut, getDrop]
    have n1 : ∀ y, dj = some y → di ≠ some y ∧ y ∉ ti := fun y hy => by
      have hw : y ∈ oj.writes := by simp [Oper.writes, ← e1, hy]
      have := apart_spec p1 hw
      refine ⟨fun h => this ?_, fun h => this ?_⟩
      · simp [Oper.writes, ← e2, h]
      · simp [Oper.writes, h2 y h]
    have n2 : ∀ y, y ∈ tj → di ≠ some y ∧ y ∉ ti := fun y hy => by
      have hw : y ∈ oj.writes := by simp [Oper.writes, h1 y hy]
      have := apart_spec p1 hw
      refine ⟨fun h => this ?_, fun h => this ?_⟩
      · simp [Oper.writes, ← e2, h]
      · simp [Oper.writes, h2 y h]
    by_cases c1 : dj = some x
    · obtain ⟨c2, c3⟩ := n1 x c1
      simp [c1, c2, c3]
    · by_cases c2 : di = some x
      · have c4 : x ∉ tj := fun h => (n2 x h).1 c2
        simp [c1, c2, c4]
      · by_cases c3 : x ∈ tj
        · obtain ⟨_, c5⟩ := n2 x c3
          simp [c1, c2, c3, c5]
        · simp [c1, c2, c3]
  unfold step at hj hi ⊢
  rw [wi]
  split at hj
  · cases hj
  · -- the earlier one is not wanted
    rename_i wj
    simp only [Option.some.injEq] at hj
    subst hj
    split at hi
    · cases hi
    · rename_i hw
      simp only [Option.some.injEq] at hi
      subst hi
      have h1 : step Γ K base oi s = some { s with t := put1 oi.dst (.tup []) s.t } := by unfold step; rw [wi, hw]
      obtain ⟨_, m2, m3⟩ := mk h1
      refine ⟨_, { s with t := put1 oj.dst (.tup []) (put1 oi.dst (.tup []) s.t) }, rfl, ?_, ⟨rfl, fun x => ?_⟩, rfl, ai, m2, m3⟩
      · simp only [m2, wj]
      · exact slots (tj := []) (ti := []) rfl rfl (by simp) (by simp) x
    · rename_i hw
      split at hi
      · cases hi
      · rename_i vi h2 hpi
        simp only [Option.some.injEq] at hi
        subst hi
        have hpi' : perform K base s.h (rd Γ s.t) oi.op = some (vi, h2) := by rw [perform_congr ri]; exact hpi
        have h1 : step Γ K base oi s = some { t := put1 oi.dst vi (drop oi.op.takes s.t), h := h2 } := by unfold step; rw [wi, hw]; simp only [hpi']
        obtain ⟨_, m2, m3⟩ := mk h1
        simp only [hpi']
        refine ⟨_, { t := put1 oj.dst (.tup []) (put1 oi.dst vi (drop oi.op.takes s.t)), h := h2 }, rfl, ?_, ⟨rfl, fun x => ?_⟩, trivial, ai, m2, m3⟩
        · simp only [m2, wj]
        · exact slots (tj := []) (ti := oi.op.takes) rfl rfl (by simp) (fun _ h => h) x
  · rename_i wj
    split at hj
    · cases hj
    · rename_i vj h1 hpj
      simp only [Option.some.injEq] at hj
      subst hj
      split at hi
      · cases hi
      · rename_i hw
        simp only [Option.some.injEq] at hi
        subst hi
        have h1' : step Γ K base oi s = some { s with t := put1 oi.dst (.tup []) s.t } := by unfold step; rw [wi, hw]
        obtain ⟨m1, m2, m3⟩ := mk h1'
        have hpj' : perform K base s.h (rd Γ (put1 oi.dst (.tup []) s.t)) oj.op = some (vj, h1) := by rw [perform_congr (rands_same m1)]; exact hpj
        refine ⟨_, { t := put1 oj.dst vj (drop oj.op.takes (put1 oi.dst (.tup []) s.t)), h := h1 }, rfl, ?_, ⟨rfl, fun x => ?_⟩, rfl, ai, m2, m3⟩
        · simp only [m2, wj, hpj']
        · exact slots (tj := oj.op.takes) (ti := []) rfl rfl (fun _ h => h) (by simp) x
      · rename_i hw
        split at hi
        · cases hi
        · rename_i vi h2 hpi
          simp only [Option.some.injEq] at hi
          subst hi
          have hpi0 : perform K base h1 (rd Γ s.t) oi.op = some (vi, h2) := by rw [perform_congr ri]; exact hpi
          have hsw : ∃ h1', perform K base s.h (rd Γ s.t) oi.op = some (vi, h1') ∧ perform K base h1' (rd Γ s.t) oj.op = some (vj, h2) := by
            by_cases z1 : oj.op.heapy = 0
            · obtain ⟨rfl, hk⟩ := heapy0 z1 hpj
              exact ⟨h2, hpi0, hk h2⟩
            · by_cases z2 : oi.op.heapy = 0
              · obtain ⟨rfl, hk⟩ := heapy0 z2 hpi0
                exact ⟨s.h, hk s.h, hpj⟩
              · simp only [Bool.or_eq_true, Bool.and_eq_true, beq_iff_eq, z1, z2, false_or, bne_iff_ne, ne_eq] at p3
                rcases p3 with (⟨q1, q2⟩ | ⟨⟨q1, q2⟩, q3⟩) | q
                · exact eff_swap (read_acc (base := base) (r := rd Γ s.t) q2).2 (read_acc (base := base) (r := rd Γ s.t) q1).2 hpj hpi0 (.inr ⟨(read_acc q2).1, (read_acc q1).1⟩)
                · obtain ⟨r1, r2⟩ := place_acc (base := base) (r := rd Γ s.t) q1
                  obtain ⟨r3, r4⟩ := place_acc (base := base) (r := rd Γ s.t) q2
                  exact eff_swap (call_acc r4 z1) (call_acc r2 z2) hpj hpi0 (.inl (by rw [r1, r3]; simp; omega))
                · have := hfree q wj hw
                  rw [← ai] at this
                  exact free_swap z1 z2 hpj hpi0 this
          obtain ⟨h1', e1, e2⟩ := hsw
          have h1'' : step Γ K base oi s = some { t := put1 oi.dst vi (drop oi.op.takes s.t), h := h1' } := by unfold step; rw [wi, hw]; simp only [e1]
          obtain ⟨m1, m2, m3⟩ := mk h1''
          have e2' : perform K base h1' (rd Γ (put1 oi.dst vi (drop oi.op.takes s.t))) oj.op = some (vj, h2) := by rw [perform_congr (rands_same m1)]; exact e2
          simp only [e1]
          refine ⟨_, { t := put1 oj.dst vj (drop oj.op.takes (put1 oi.dst vi (drop oi.op.takes s.t))), h := h2 }, rfl, ?_, ⟨rfl, fun x => ?_⟩, trivial, ai, m2, m3⟩
          · simp only [m2, wj, e2']
          · exact slots (tj := oj.op.takes) (ti := oi.op.takes) rfl rfl (fun _ h => h) (fun _ h => h) x

end Go.Pm

namespace Go.Pm

variable {Γ : Env} {K : Calls1} {base : Nat}

def RunT (Γ : Env) (K : Calls1) (base : Nat) (tr : List (Nat × Acc)) : List Oper → St → St → Prop
  | [], s, e => Eqv s e
  | o :: os, s, e => ∃ s1, step Γ K base o s = some s1 ∧ (wanted o s.t = some true → (o.ix, acc base (rd Γ s.t) o.op) ∈ tr) ∧ RunT Γ K base tr os s1 e

theorem RunT.eqv {tr : List (Nat × Acc)} : ∀ {os : List Oper} {s s' e : St}, RunT Γ K base tr os s e → Eqv s s' → RunT Γ K base tr os s' e
  | [], _, _, _, h, k => k.symm.trans h
  | o :: os, s, s', e, ⟨s1, h1, h2, h3⟩, k => by
    obtain ⟨s1', h1', k1⟩ := k.step h1
    refine ⟨s1', h1', fun hw => ?_, h3.eqv k1⟩
    rw [← k.wanted o] at hw
    rw [← k.rd]
    exact h2 hw

def Pairs (tr : List (Nat × Acc)) (oj oi : Oper) : Prop := oi.conf.contains oj.ix = true → ∀ aj ai, (oj.ix, aj) ∈ tr → (oi.ix, ai) ∈ tr → Acc.free aj ai = true

theorem RunT.front {tr : List (Nat × Acc)} {oi : Oper} {post : List Oper} : ∀ {pre : List Oper} {s e : St}, RunT Γ K base tr (pre ++ oi :: post) s e → (∀ oj ∈ pre, pairOk oi oj = true ∧ Pairs tr oj oi) →
    RunT Γ K base tr (oi :: (pre ++ post)) s e
  | [], _, _, h, _ => h
  | oj :: pre, s, e, ⟨s1, h1, h2, h3⟩, hp => by
    obtain ⟨s2, k1, k2, k3⟩ := RunT.front h3 (fun o ho => hp o (by simp [ho]))
    obtain ⟨p1, p2⟩ := hp oj (by simp)
    obtain ⟨s1', s2', e1, e2, e3, e4, e5, e6, e7⟩ := step_swap p1 h1 k1 (fun hc w1 w2 => p2 hc _ _ (h2 w1) (k2 w2))
    refine ⟨s1', e1, fun hw => ?_, s2', e2, fun hw => ?_, k3.eqv e3⟩
    · rw [e4] at hw; rw [e5]; exact k2 hw
    · rw [e6] at hw; rw [e7]; exact h2 hw

theorem stepsT_run : ∀ (L : List Oper) (s e : St) (tr tr' : List (Nat × Acc)), stepsT Γ K base L (s, tr) = some (e, tr') → (L.map (·.ix)).Nodup → (∀ p ∈ tr, p.1 ∉ L.map (·.ix)) →
    RunT Γ K base tr' L s e ∧ (∀ p ∈ tr, p ∈ tr') ∧ (∀ p ∈ tr', p ∈ tr ∨ p.1 ∈ L.map (·.ix)) ∧ L.Pairwise (Pairs tr') ∧
      (∀ oi ∈ L, ∀ p ∈ tr, oi.conf.contains p.1 = true → ∀ ai, (oi.ix, ai) ∈ tr' → Acc.free p.2 ai = true)
  | [], s, e, tr, tr', h, _, _ => by
    simp only [stepsT, Option.some.injEq, Prod.mk.injEq] at h
    obtain ⟨rfl, rfl⟩ := h
    exact ⟨Eqv.refl _, fun p h => h, fun p h => .inl h, .nil, by simp⟩
  | o :: os, s, e, tr, tr', h, hn, hd => by
    simp only [stepsT] at h
    split at h
    · cases h
    · rename_i q hq
      obtain ⟨s1, tr1⟩ := q
      simp only [List.map_cons, List.nodup_cons] at hn
      have hstep : step Γ K base o s = some s1 ∧ ((wanted o s.t = some true ∧ tr1 = (o.ix, acc base (rd Γ s.t) o.op) :: tr ∧ (∀ j ∈ o.conf, ∀ p ∈ tr, p.1 = j → Acc.free p.2 (acc base (rd Γ s.t) o.op) = true)) ∨ (wanted o s.t ≠ some true ∧ tr1 = tr)) := by
        unfold stepT at hq
        split at hq
        · cases hq
        · rename_i hw
          simp only [Option.map_eq_some_iff, Prod.mk.injEq] at hq
          obtain ⟨s2, h1, rfl, rfl⟩ := hq
          exact ⟨h1, .inr ⟨by simp only [hw]; simp, rfl⟩⟩
        · rename_i hw
          dsimp only at hq
          split at hq
          · rename_i hall
            simp only [Option.map_eq_some_iff, Prod.mk.injEq] at hq
            obtain ⟨s2, h1, rfl, rfl⟩ := hq
            refine ⟨h1, .inl ⟨hw, rfl, fun j hj p hp hpj => ?_⟩⟩
            have := List.all_eq_true.1 (List.all_eq_true.1 hall j hj) p hp
            simpa [hpj] using this
          · cases hq
      obtain ⟨h1, hcase⟩ := hstep
      have hd1 : ∀ p ∈ tr1, p.1 ∉ os.map (·.ix) := by
        rcases hcase with ⟨_, rfl, _⟩ | ⟨_, rfl⟩
        · intro p hp
          rcases List.mem_cons.1 hp with rfl | hp
          · exact hn.1
          · exact fun hm => hd p hp (by simp only [List.map_cons, List.mem_cons]; exact .inr hm)
        · exact fun p hp hm => hd p hp (by simp only [List.map_cons, List.mem_cons]; exact .inr hm)
      obtain ⟨r1, r2, r3, r4, r5⟩ := stepsT_run os s1 e tr1 tr' h hn.2 hd1
      have sub : ∀ p ∈ tr, p ∈ tr1 := by
        rcases hcase with ⟨_, rfl, _⟩ | ⟨_, rfl⟩
        · exact fun p hp => List.mem_cons_of_mem _ hp
        · exact fun p hp => hp
      -- the record of o
      have own : ∀ a, (o.ix, a) ∈ tr' → wanted o s.t = some true ∧ a = acc base (rd Γ s.t) o.op := fun a ha => by
        have h0 : (o.ix, a) ∈ tr1 := (r3 _ ha).resolve_right hn.1
        rcases hcase with ⟨hw, rfl, _⟩ | ⟨_, rfl⟩
        · rcases List.mem_cons.1 h0 with e0 | e0
          · simp only [Prod.mk.injEq, true_and] at e0; exact ⟨hw, e0⟩
          · exact absurd (by simp) (hd _ e0)
        · exact absurd (by simp) (hd _ h0)
      refine ⟨⟨s1, h1, fun hw => ?_, r1⟩, fun p hp => r2 p (sub p hp), fun p hp => ?_, List.pairwise_cons.2 ⟨fun oi hoi => ?_, r4⟩, fun oi hoi p hp hc ai hai => ?_⟩
      · rcases hcase with ⟨_, rfl, _⟩ | ⟨hw', _⟩
        · exact r2 _ (by simp)
        · exact absurd hw hw'
      · rcases r3 p hp with h | h
        · rcases hcase with ⟨_, rfl, _⟩ | ⟨_, rfl⟩
          · rcases List.mem_cons.1 h with rfl | h
            · exact .inr (by simp)
            · exact .inl h
          · exact .inl h
        · exact .inr (by simp only [List.map_cons, List.mem_cons]; exact .inr h)
      · intro hc aj ai hj hi
        obtain ⟨hw, rfl⟩ := own aj hj
        have hm : (o.ix, acc base (rd Γ s.t) o.op) ∈ tr1 := by
          rcases hcase with ⟨_, rfl, _⟩ | ⟨hw', _⟩
          · simp
          · exact absurd hw hw'
        exact r5 oi hoi _ hm hc ai hi
      · rcases List.mem_cons.1 hoi with rfl | hoi
        · obtain ⟨hw, rfl⟩ := own ai hai
          rcases hcase with ⟨_, _, hf⟩ | ⟨hw', _⟩
          · exact hf p.1 (by simpa using hc) p hp rfl
          · exact absurd hw hw'
        · exact r5 oi hoi p (sub p hp) hc ai hai

end Go.Pm

namespace Go.Pm

inductive KC : C → Value → Prop
  | int (k : IntKind) (n : Int) : KC (.int k n) (.int k n)
  | bool (b : Bool) : KC (.bool b) (.bool b)
  | str (s : ByteArray) : KC (.str s) (.string s)
  | nilf : KC .nilf .nilFunc
  | nilp : KC .nilp (.pointer none)
  | nili : KC .nili .nilIface
  | slNil (es : Nat) : KC (.sl .nil es []) (.slice none 0 0)
  | imapNil (ka va : Bool) : KC (.imap ka va []) (.map none)

theorem KC.rc {S : Seat} {g : Gh} {c : C} {v : Value} (h : KC c v) : RC S g c v := by
  cases h
  · exact .int _ _
  · exact .bool _
  · exact .str _
  · exact .nilf
  · exact .nilp
  · exact .nili
  · exact .slNil _
  · exact .imapNil _ _

theorem KC.pure {c : C} {v : Value} (h : KC c v) : c.pure = true := by cases h <;> rfl

def KL (z : List C) (vs : List Value) : Prop := z.length = vs.length ∧ ∀ (j : Nat) c v, z[j]? = some c → vs[j]? = some v → KC c v

inductive KV : V → Value → Prop
  | sc (c : C) (v : Value) (h : KC c v) : KV (.sc c) v
  | agg (z : List C) (vs : Array Value) (h : KL z vs.toList) : KV (.agg z) (.agg vs)
  | undef : KV (.tup []) (.tuple #[])

theorem KV.rv {S : Seat} {g : Gh} {v : V} {x : Value} (h : KV v x) : RV S g v x := by
  cases h with
  | sc c _ h => exact .sc c _ h.rc
  | agg z vs h => exact .agg z vs (by simpa using h.1) fun j c v a b => (h.2 j c v a (by simpa using b)).rc
  | undef => exact .tup [] #[] rfl fun j v w a b => by simp at a

inductive MR (S : Seat) (G : List Nat) : Rand → Operand → Prop
  | t (i : Nat) : MR S G (.t i) (.tmp i)
  | k (v : V) (x : Value) (h : KV v x) : MR S G (.k v) (.const x)
  | f (id : Nat) : MR S G (.f id) (.func (S.fm id))
  | g (id : Nat) (h : id ∈ G) : MR S G (.g id) (.global (S.gm id))

inductive MT (S : Seat) (G : List Nat) : Rand → Operand → Prop
  | r (x x') (h : MR S G x x') : MT S G x x'
  | tk (i : Nat) : MT S G (.tk i) (.tmp i)

def MRs (S : Seat) (G : List Nat) : List Rand → List Operand → Prop
  | [], [] => True
  | x :: xs, y :: ys => MR S G x y ∧ MRs S G xs ys
  | _, _ => False

def MRo (S : Seat) (G : List Nat) : Option Rand → Option Operand → Prop
  | none, none => True
  | some x, some y => MR S G x y
  | _, _ => False

def isAggD : TypeDesc → Bool
  | .struct _ | .array _ _ => true
  | _ => false

def TSh (P : Program) (t : TypeId) : Option Nat → Prop
  | none => ∃ d, P.underlying t = some d ∧ isAggD d = false
  | some n => ∃ d i, P.underlying t = some d ∧ isAggD d = true ∧ P.info? t = some i ∧ i.size = n

def TSize (P : Program) (t : TypeId) (n : Nat) : Prop := ∃ i, P.info? t = some i ∧ i.size = n

def TZero (P : Program) (t : TypeId) (z : List C) : Prop := ∃ i zv, P.info? t = some i ∧ i.zero = some zv ∧ KL z zv.cells.toList
def TZeroV (P : Program) (t : TypeId) (z : V) : Prop := ∃ i zv, P.info? t = some i ∧ i.zero = some zv ∧ KV z zv

def flatFs (P : Program) (f : TypeId → Option KT) : Nat → List Field → Option (List Nat)
  | _, [] => some []
  | off, x :: xs => match f x.type with
    | none => none
    | some k => if x.name ≠ "_" ∧ x.offset = off ∧ (P.info? x.type).map (·.size) = some k.tags.length then (flatFs P f (off + k.tags.length) xs).map (k.tags ++ ·) else none

def flat (P : Program) : Nat → TypeId → Option KT
  | 0, _ => none
  | d + 1, t => match P.underlying t with
    | some .bool => some ⟨false, [0]⟩
    | some (.int _) => some ⟨false, [1]⟩
    | some .string => some ⟨false, [2]⟩
    | some (.struct fs) => if P.stoodInHeld t then none else (flatFs P (flat P d) 0 fs.toList).map (⟨true, ·⟩)
    | some (.array len e) => match flat P d e with
      | some k => if (P.info? e).map (·.size) = some k.tags.length then some ⟨true, (List.replicate len k.tags).flatten⟩ else none
      | none => none
    | _ => none

structure AppTy (S : Seat) (t t2 : TypeId) (es : Nat) where
  e : TypeId
  e2 : TypeId
  i : TypeInfo
  zv : Value
  hu : S.P.underlying t = some (.slice e)
  hu2 : S.P.underlying t2 = some (.slice e2)
  hi : S.P.info? e = some i
  hs : i.size = es
  hb : i.bytes ≤ 16384
  hb0 : 0 < i.bytes
  he : 0 < es
  hz : i.zero = some zv
  hzs : zv.cells.size = es

inductive MOp (S : Seat) (G : List Nat) : Op → Go.Op → Prop
  | mv (x x') (h : MT S G x x') : MOp S G (.mv x) (.move x')
  | asg (x x') (h : MT S G x x') : MOp S G (.mv x) (.assign x')
  | pick (c a b c' a' b') (h1 : MR S G c c') (h2 : MR S G a a') (h3 : MR S G b b') : MOp S G (.pick c a b) (.pick c' a' b')
  | alloc (a z t) (h : TZero S.P t z) : MOp S G (.alloc a z) (.alloc t)
  | box (a x t x') (h : MT S G x x') : MOp S G (.box a x) (.box t x')
  | build (z ps t ps') (hz : TZero S.P t z)
      (hp : ∃ f : Nat → Option (Nat × Nat), (ps.map fun p => some (p.1, p.2.1)) = (ps'.toList.map fun p => f p.1) ∧
        ((∃ fs, S.P.underlying t = some (.struct fs) ∧ (∀ x ∈ fs, (S.P.info? x.type).isSome) ∧ f = fun i => fs[i]?.map fun x => (x.offset, S.P.cellsOf x.type)) ∨
         (∃ len e, S.P.underlying t = some (.array len e) ∧ (S.P.info? e).isSome ∧ f = fun i => some (i * S.P.cellsOf e, S.P.cellsOf e))))
      (hr : MRs S G (ps.map (·.2.2)) (ps'.toList.map (·.2))) : MOp S G (.build z ps) (.build t ps')
  | bslice (es n z ps t ps' e) (hu : S.P.underlying t = some (.slice e)) (hs : TSize S.P e es) (hz : TZero S.P e z) (hn : n * es ≤ 2 ^ 24) (he : 0 < es)
      (hi : ps.map (·.1) = ps'.toList.map (·.1)) (hr : MRs S G (ps.map (·.2)) (ps'.toList.map (·.2))) : MOp S G (.bslice es n z ps) (.buildSlice t n ps')
  | mkslice (es n z t e i) (hu : S.P.underlying t = some (.slice e)) (hi : S.P.info? e = some i) (hs : i.size = es) (hz : TZero S.P e z) (hn : n * es ≤ 2 ^ 24) (he : 0 < es) (hb : i.bytes * n ≤ 2 ^ 40) :
      MOp S G (.bslice es n z []) (.makeSlice t (.const (.int .i64 n)) (.const (.int .i64 n)))
  | bmsl (a es n z ps t ps' e) (hu : S.P.underlying t = some (.slice e)) (hs : TSize S.P e es) (hz : TZero S.P e z) (hn : n * es ≤ 2 ^ 24) (he : 0 < es)
      (hi : ps.map (·.1) = ps'.toList.map (·.1)) (hr : MRs S G (ps.map (·.2)) (ps'.toList.map (·.2))) : MOp S G (.bmsl a es n z ps) (.buildSlice t n ps')
  | load (n x t x') (h : MR S G x x') (hs : TSh S.P t n) : MOp S G (.load n x) (.load t x')
  | loadT (x t x') (h : MR S G x x') (hs : TSh S.P t none) : MOp S G (.loadT x) (.load t x')
  | store (n x v t x' v') (h : MR S G x x') (h2 : MT S G v v') (hs : TSize S.P t n) : MOp S G (.store n x v) (.store t x' v')
  | bin (op x y t x' y' t2) (h : MR S G x x') (h2 : MR S G y y') : MOp S G (.bin op x y) (.binOp op t x' y' t2)
  | eqf (neg ty x y t x' y' t2 d) (h : MR S G x x') (h2 : MR S G y y') (hf : flat S.P d t = some ty) (hd : d ≤ 100) (hty : ty.agg = true ∨ ty = ⟨false, [0]⟩) (hg : S.P.eqGuardType S.P.depth t = false) :
      MOp S G (.eqf neg ty x y) (.binOp (if neg then .neq else .eql) t x' y' t2)
  | isnil (kd neg x t x' y t2 d) (h : MR S G x x') (hu : S.P.underlying t = some d)
      (hy : (kd = 0 ∧ y = .slice none 0 0 ∧ ∃ e, d = .slice e) ∨ (kd = 1 ∧ y = .nilFunc ∧ ∃ a b c, d = .func a b c) ∨ (kd = 2 ∧ y = .pointer none ∧ ∃ e, d = .pointer e)) :
      MOp S G (.isnil kd neg x) (.binOp (if neg then .neq else .eql) t x' (.const y) t2)
  | un (op x t x') (h : MR S G x x') : MOp S G (.un op x) (.unOp op t x')
  | conv (k x s d x' e) (h : MR S G x x') (hd : S.P.underlying d = some (.int k)) (hs : S.P.underlying s = some e) (ht : ∀ a, e ≠ .slice a) : MOp S G (.conv k x) (.convert s d x')
  | mkf (id sh first cap first' cap') (h1 : MRs S G first first') (h2 : MRs S G cap cap') : MOp S G (.mkf id sh first cap) (.makeFunc (.func (S.fm id)) first'.toArray cap'.toArray)
  | mkmap (a ka va t) : MOp S G (.mkmap a ka va) (.makeMap t none)
  | slice (es x lo hi mx t x' lo' hi' mx' e) (h : MR S G x x') (h1 : MRo S G lo lo') (h2 : MRo S G hi hi') (h3 : MRo S G mx mx') (hu : S.P.underlying t = some (.slice e)) (hs : TSize S.P e es) :
      MOp S G (.slice es x lo hi mx) (.slice t x' lo' hi' mx')
  | slArr (n es x lo hi mx t x' lo' hi' mx' e) (h : MR S G x x') (h1 : MRo S G lo lo') (h2 : MRo S G hi hi') (h3 : MRo S G mx mx') (hu : S.P.underlying t = some (.array n e)) (hs : TSize S.P e es) :
      MOp S G (.slArr n es x lo hi mx) (.slice t x' lo' hi' mx')
  | slStr (x lo hi t x' lo' hi') (h : MR S G x x') (h1 : MRo S G lo lo') (h2 : MRo S G hi hi') (hu : S.P.underlying t = some .string) :
      MOp S G (.slStr x lo hi) (.slice t x' lo' hi' none)
  | faddr (off x t x' i fs f) (h : MR S G x x') (hu : S.P.underlying t = some (.struct fs)) (hf : fs[i]? = some f) (ho : f.offset = off) (hs : ∃ i, S.P.info? f.type = some i ∧ i.size ≠ 0) :
      MOp S G (.faddr off x) (.fieldAddr t x' i)
  | field (off n x t x' i fs f) (h : MR S G x x') (hu : S.P.underlying t = some (.struct fs)) (hf : fs[i]? = some f) (ho : f.offset = off) (hs : TSh S.P f.type n) :
      MOp S G (.field off n x) (.field t x' i)
  | iaddr (es x i t x' i' e) (h : MR S G x x') (h2 : MR S G i i') (hu : S.P.underlying t = some (.slice e)) (hs : TSize S.P e es) : MOp S G (.iaddr es x i) (.indexAddr t x' i')
  | iarr (len es x i t x' i' e) (h : MR S G x x') (h2 : MR S G i i') (hu : S.P.underlying t = some (.array len e)) (hs : TSize S.P e es) : MOp S G (.iarr len es x i) (.indexAddr t x' i')
  | index (len es n x i t x' i' e) (h : MR S G x x') (h2 : MR S G i i') (hu : S.P.underlying t = some (.array len e)) (hs : TSize S.P e es) (hn : TSh S.P e n) :
      MOp S G (.index len es n x i) (.index t x' i')
  | istr (x i t x' i') (h : MR S G x x') (h2 : MR S G i i') (hu : S.P.underlying t = some .string) : MOp S G (.istr x i) (.index t x' i')
  | lookup (ok ty z m key t m' key' kt et d) (h : MR S G m m') (h2 : MR S G key key') (hu : S.P.underlying t = some (.map kt et)) (hz : TZeroV S.P et z) (hk : flat S.P d kt = some ty) (hd : d ≤ 100) :
      MOp S G (.lookup ok ty z m key) (.lookup t m' key' ok)
  | ment (ty z m key t m' key' kt et d) (h : MR S G m m') (h2 : MR S G key key') (hu : S.P.underlying t = some (.map kt et)) (hz : TZeroV S.P et z) (hk : flat S.P d kt = some ty) (hd : d ≤ 100) :
      MOp S G (.ment ty z m key) (.mapEntry t m' key')
  | estore (m s v t m' s' v') (h : MR S G m m') (h2 : MR S G s s') (h3 : MR S G v v') : MOp S G (.estore m s v) (.entryStore t m' s' v')
  | mupd (ty m key v t m' key' v' kt et d) (h : MR S G m m') (h2 : MR S G key key') (h3 : MR S G v v') (hu : S.P.underlying t = some (.map kt et)) (hk : flat S.P d kt = some ty) (hd : d ≤ 100) :
      MOp S G (.mupd ty m key v) (.mapUpdate t m' key' v')
  | ins (ty m key v t m' key' v' kt et d) (h : MR S G m m') (h2 : MR S G key key') (h3 : MR S G v v') (hu : S.P.underlying t = some (.map kt et)) (hk : flat S.P d kt = some ty) (hd : d ≤ 100) :
      MOp S G (.mupd ty m key v) (.insert t m' key' v')
  | ext (x i x') (h : MR S G x x') : MOp S G (.ext x i) (.extract x' i)
  | len (k x x' t) (h : MR S G x x') (hu : (k = 0 ∧ S.P.underlying t = some .string) ∨ (k = 1 ∧ ∃ e, S.P.underlying t = some (.slice e)) ∨ (k = 2 ∧ ∃ kt e, S.P.underlying t = some (.map kt e))) :
      MOp S G (.len k x) (.call { callee := .builtin .len, args := #[x'], argTypes := #[t] })
  | lenArr (n x' t) (hu : (∃ e, S.P.underlying t = some (.array n e)) ∨ (∃ p e, S.P.underlying t = some (.pointer p) ∧ S.P.underlying p = some (.array n e))) :
      MOp S G (.lenArr n) (.call { callee := .builtin .len, args := #[x'], argTypes := #[t] })
  | min (x xs x' xs' ts) (h : MR S G x x') (h2 : MRs S G xs xs') : MOp S G (.min x xs) (.call { callee := .builtin .min, args := (x' :: xs').toArray, argTypes := ts })
  | max (x xs x' xs' ts) (h : MR S G x x') (h2 : MRs S G xs xs') : MOp S G (.max x xs) (.call { callee := .builtin .max, args := (x' :: xs').toArray, argTypes := ts })
  | append (es x y x' y' t t2) (h : MT S G x x') (h2 : MR S G y y') (T : AppTy S t t2 es) :
      MOp S G (.append es x y) (.call { callee := .builtin .append, args := #[x', y'], argTypes := #[t, t2] })
  | appendM (a0 es x y x' y' t t2) (h : MR S G x x') (h2 : MR S G y y') (T : AppTy S t t2 es) :
      MOp S G (.appendM a0 es x y) (.call { callee := .builtin .append, args := #[x', y'], argTypes := #[t, t2] })
  | late (o o') (hp : o.plain = true) (h : MOp S G o o') : MOp S G (.late o) o'
  | nilchk (x x') (h : MR S G x x') : MOp S G (.nilchk x) (.nilCheck x')
  | call (p f args f' args' ts) (h : MR S G f f') (h2 : MRs S G args args') : MOp S G (.call p f args) (.call { callee := .value f', args := args'.toArray, argTypes := ts })

def binds (o : Go.Oper) : List Nat := (o.after.toList.filter fun e => Region.binds .any e).map (·.on)

structure MOper (S : Seat) (G : List Nat) (nt : Nat) (ops : Array Go.Oper) (o : Oper) (o' : Go.Oper) : Prop where
  dst : o'.dst = o.dst
  lt : ∀ d, o.dst = some d → d < nt
  op : MOp S G o.op o'.op
  guard : match o.guard, o'.guard with
    | none, none => True
    | some (s, b), some (j, b') => b = b' ∧ (ops[j]?).bind (·.dst) = some s
    | _, _ => False

def MOpers (S : Seat) (G : List Nat) (nt : Nat) (ops : Array Go.Oper) : List Oper → List Go.Oper → Prop
  | [], [] => True
  | o :: os, o' :: os' => MOper S G nt ops o o' ∧ MOpers S G nt ops os os'
  | _, _ => False

def exCode : Ex → Option Code
  | .norm => none
  | .exit id => some (.exit id)
  | .ret => some .ret

structure DrawOk (ops : List Oper) (ops' : List Go.Oper) : Prop where
  ix : ∀ (i : Nat) o, ops[i]? = some o → o.ix = i
  lt : ∀ (i : Nat) o, ops'[i]? = some o → ∀ j ∈ binds o, j < i
  apart : ∃ anc : Nat → List Nat, (∀ (i : Nat) o, ops'[i]? = some o → ∀ j ∈ anc i, j ∈ binds o ∨ ∃ k ∈ binds o, j ∈ anc k) ∧
    ∀ (i j : Nat) a b, j < i → ops[i]? = some a → ops[j]? = some b → j ∉ anc i → pairOk a b = true

inductive MC (S : Seat) (G : List Nat) (nt : Nat) : Bool → AC → Code → Prop
  | skip (r : Bool) : MC S G nt r .skip .skip
  | label (r : Bool) (l : Nat) : MC S G nt r .skip (.label l)
  | seqLabel (r : Bool) (l : Nat) (a : AC) (y : Code) (h : MC S G nt r a y) : MC S G nt r a (.seq (.label l) y)
  | scope (r : Bool) (a : AC) (y : Code) (h : MC S G nt r a y) : MC S G nt r a (.scope y)
  | seq (r : Bool) (a b : AC) (x y : Code) (h1 : MC S G nt r a x) (h2 : MC S G nt r b y) : MC S G nt r (.seq a b) (.seq x y)
  | cond (r : Bool) (c : Rand) (c' : Operand) (a b : AC) (x y : Code) (h : MR S G c c') (h1 : MC S G nt r a x) (h2 : MC S G nt r b y) : MC S G nt r (.cond c a b) (.cond c' x y)
  | block (r : Bool) (id : Nat) (a : AC) (x : Code) (h : MC S G nt r a x) : MC S G nt r (.block id a) (.block id x)
  | loop (r : Bool) (keep : List Nat) (a : AC) (x : Code) (h : MC S G nt r a x) : MC S G nt r (.loop keep a) (.loop x)
  | exit (r : Bool) (id : Nat) : MC S G nt r (.exit id) (.exit id)
  | ret (r : Bool) : MC S G nt r .ret .ret
  | frz (r : Bool) (i : Nat) (a : AC) (y : Code) (h : MC S G nt r a y) : MC S G nt r (.frz i a) y
  | frzc (r : Bool) (i : Nat) (a : AC) (y : Code) (h : MC S G nt r a y) : MC S G nt r (.frzc i a) y
  | region (r : Bool) (nal : Nat) (ops : List Oper) (keep : List Nat) (id : Nat) (ops' : Array Go.Oper) (h : MOpers S G nt ops' ops ops'.toList) : MC S G nt r (.region nal ops false keep) (.region id ops' false)
  | draw (r : Bool) (nal : Nat) (ops : List Oper) (keep : List Nat) (id : Nat) (ops' : Array Go.Oper) (h : MOpers S G nt ops' ops ops'.toList) (hd : DrawOk ops ops'.toList) :
      MC S G nt r (.region nal ops true keep) (.region id ops' true)
  | rfunc (f : Rand) (f' : Operand) (ps : List Nat) (a b : AC) (x y : Code) (h : MR S G f f') (h1 : MC S G nt true a x) (h2 : MC S G nt true b y) (hp : ∀ p ∈ ps, p < nt) :
      MC S G nt false (.rfunc f ps a b) (.rangeFunc f' ps.toArray x y)

end Go.Pm

namespace Go.Pm

def live : Obj → Bool
  | .dead | .free => false
  | _ => true

def isFreeO : Obj → Bool
  | .free => true
  | _ => false

def KR (S : Seat) (g : Gh) (agg : Bool) (cs : List C) (v : Value) : Prop :=
  ∃ vs : List Value, v = ofV agg vs ∧ vs.length = cs.length ∧ (agg = false → cs.length = 1) ∧ ∀ (j : Nat) c x, cs[j]? = some c → vs[j]? = some x → RC S g c x

def lsOf : LS → LoopState
  | .ready => .ready
  | .busy => .busy
  | .done => .done

def RObj (S : Seat) (G : List Nat) (g : Gh) (w : World) : Obj → Nat → Prop
  | .dead, _ => True
  | .free, _ => True
  | .var cs, b => ∃ vals elem, w.heap[b]? = some (.cells vals elem (0, 0)) ∧ cs.length ≤ vals.size ∧ ∀ (j : Nat) c x, cs[j]? = some c → vals[j]? = some x → RO S g w c x
  | .map ka va l ph, b => ∃ es : Array MapEntry, w.heap[b]? = some (.map es es.size) ∧ (∀ (i : Nat) m, es[i]? = some m → m.born = i) ∧
      es.size = l.length + (if ph.isSome then 1 else 0) ∧
      (∀ (i : Nat) e m, l[i]? = some e → es[i]? = some m → KR S g ka e.1 m.key ∧ KR S g va e.2 m.val ∧ C.pureL e.1 = true ∧ C.pureL e.2 = true) ∧
      (∀ k z m, ph = some (k, z) → es[l.length]? = some m → KR S g ka k m.key ∧ KR S g va z m.val ∧ C.pureL k = true ∧ C.pureL z = true)
  | .loop st pend t ps a b', b => ∃ (L : Loop) (nt : Nat), w.heap[b]? = some (.loop L) ∧ L.state = lsOf st ∧ L.pending = pend.bind exCode ∧ L.params.toList = ps ∧
      MC S G nt true a L.assign ∧ MC S G nt true b' L.body ∧ L.tmps.size = nt ∧ (∀ i, RV S g (get t i) (L.tmps.getD i undef)) ∧ (∀ p ∈ ps, p < nt)

def ClaimH (g : Gh) (h : List Obj) (w : World) (r j b : Nat) : Prop :=
  ∃ cs es l vals elem fr a n cap, h[r]? = some (.var cs) ∧ cs[j]? = some (.own es l) ∧ w.heap[g.σ r]? = some (.cells vals elem fr) ∧ vals[j]? = some (.slice (some a) n cap) ∧ a.block = b

def ClaimT (t : List (Nat × V)) (tm : Array Value) (i b : Nat) : Prop :=
  ∃ es l a n cap, get t i = .sc (.own es l) ∧ tm.getD i undef = .slice (some a) n cap ∧ a.block = b

def Obj.und (n : Nat) : Obj → Prop
  | .var cs => C.underL n cs = true
  | .loop _ _ t _ _ _ => ∀ i, (get t i).under n = true
  | _ => True

theorem get_under {n : Nat} : ∀ {t : List (Nat × V)}, (t.all fun p => p.2.under n) = true → ∀ i, (get t i).under n = true
  | [], _, i => rfl
  | (j, v) :: t, h, i => by
    simp only [List.all_cons, Bool.and_eq_true] at h
    simp only [get]
    split
    · exact h.1
    · exact get_under h.2 i

theorem und_of {n : Nat} {o : Obj} (h : o.under n = true) : o.und n := by
  cases o with
  | var cs => exact h
  | loop st pend t ps a b => exact get_under h
  | dead => trivial
  | free => trivial
  | map ka va l ph => trivial

structure RelH (S : Seat) (G : List Nat) (g : Gh) (h : List Obj) (w : World) : Prop where
  ob : ∀ (r : Nat) o, h[r]? = some o → RObj S G g w o (g.σ r)
  as : ∀ r, g.A r → ∃ o, h[r]? = some o ∧ isFreeO o = false
  lv : ∀ (r : Nat) o, h[r]? = some o → live o = true → g.A r
  inj : ∀ (r r' : Nat) o o', h[r]? = some o → h[r']? = some o' → live o = true → live o' = true → g.σ r = g.σ r' → r = r'
  im : ∀ b o v, g.M b o = some v → w.cell? ⟨b, o, none⟩ = some v
  mm : ∀ b es, g.N b = some es → ∃ n, w.heap[b]? = some (.map es n)
  djM : ∀ (r : Nat) o, h[r]? = some o → live o = true → ∀ k, g.M (g.σ r) k = none
  djN : ∀ (r : Nat) o, h[r]? = some o → live o = true → g.N (g.σ r) = none
  gl : ∀ id ∈ G, RC S g (.eptr (S.Γ.glob id) 0) (.pointer (some ⟨S.gm id, 0, none⟩))
  ex : ∀ r j r' j' b, ClaimH g h w r j b → ClaimH g h w r' j' b → r = r' ∧ j = j'
  cl : ∀ r j b (r' : Nat) o, ClaimH g h w r j b → h[r']? = some o → live o = true → g.σ r' ≠ b

structure Rel (S : Seat) (G : List Nat) (g : Gh) (nt : Nat) (s : St) (a : Act) (w : World) : Prop where
  hp : RelH S G g s.h w
  sz : a.tmps.size = nt
  tm : ∀ i, RT S g w (get s.t i) (a.tmps.getD i undef)
  exT : ∀ i i' b, ClaimT s.t a.tmps i b → ClaimT s.t a.tmps i' b → i = i'
  exTH : ∀ i b r j, ClaimT s.t a.tmps i b → ClaimH g s.h w r j b → False
  clT : ∀ i b (r : Nat) o, ClaimT s.t a.tmps i b → s.h[r]? = some o → live o = true → g.σ r ≠ b

def PermH (g : Gh) (h : List Obj) (w : World) (b : Nat) : Prop :=
  (∃ (r : Nat) (o : Obj), h[r]? = some o ∧ live o = true ∧ g.σ r = b) ∨ ∃ r j, ClaimH g h w r j b
def Perm (g : Gh) (s : St) (a : Act) (w : World) (b : Nat) : Prop := PermH g s.h w b ∨ ∃ i, ClaimT s.t a.tmps i b

structure Keeps (perm : Nat → Prop) (w w' : World) : Prop where
  size : w.heap.size ≤ w'.heap.size
  same : ∀ b, b < w.heap.size → ¬ perm b → w'.heap[b]? = w.heap[b]?
  out : w'.output = w.output
  os : w'.os = w.os
  tape : w'.tape = w.tape

theorem Keeps.refl (perm : Nat → Prop) (w : World) : Keeps perm w w := ⟨Nat.le_refl _, fun _ _ _ => rfl, rfl, rfl, rfl⟩
theorem Keeps.trans {p q : Nat → Prop} {a b c : World} (h : Keeps p a b) (k : Keeps q b c) (hq : ∀ x, x < a.heap.size → q x → p x) : Keeps p a c :=
  ⟨Nat.le_trans h.size k.size, fun x hx hp => (k.same x (Nat.lt_of_lt_of_le hx h.size) (fun hq' => hp (hq x hx hq'))).trans (h.same x hx hp), k.out.trans h.out, k.os.trans h.os, k.tape.trans h.tape⟩
theorem Keeps.mono {p q : Nat → Prop} {a b : World} (h : Keeps p a b) (hq : ∀ x, x < a.heap.size → p x → q x) : Keeps q a b :=
  ⟨h.size, fun x hx hp => h.same x hx (fun h' => hp (hq x hx h')), h.out, h.os, h.tape⟩

section
variable {S : Seat} {G : List Nat} {g g' : Gh} {nt : Nat} {s : St} {a : Act} {w w' : World} {h : List Obj}

theorem heap_lt {b : Nat} {o : Go.Obj} (e : w.heap[b]? = some o) : b < w.heap.size := (Array.getElem?_eq_some_iff.1 e).1

theorem cell_of_heap {b j : Nat} {cs : Array Value} {t : TypeId} {fr : Nat × Nat} (e : w.heap[b]? = some (.cells cs t fr)) : w.cell? ⟨b, j, none⟩ = cs[j]? := cell_of_row w b j cs t fr e

theorem M_lt (hR : RelH S G g h w) {b o : Nat} {v : Value} (e : g.M b o = some v) : b < w.heap.size := by
  have := hR.im b o v e
  simp only [World.cell?] at this
  cases hb : w.heap[b]? with
  | none => rw [hb] at this; cases this
  | some o => exact heap_lt hb

theorem N_lt (hR : RelH S G g h w) {b : Nat} {es : Array MapEntry} (e : g.N b = some es) : b < w.heap.size := by
  obtain ⟨n, hn⟩ := hR.mm b es e
  exact heap_lt hn

theorem live_lt (hR : RelH S G g h w) {r : Nat} {o : Obj} (e : h[r]? = some o) (hl : live o = true) : g.σ r < w.heap.size := by
  have ho := hR.ob r o e
  cases o with
  | dead => simp [live] at hl
  | free => simp [live] at hl
  | var cs => obtain ⟨vals, elem, hb, _⟩ := ho; exact heap_lt hb
  | map ka va l ph => obtain ⟨es, hb, _⟩ := ho; exact heap_lt hb
  | loop st pend t ps x y => obtain ⟨L, n, hb, _⟩ := ho; exact heap_lt hb

theorem A_lt (hR : RelH S G g h w) {r : Nat} (hA : g.A r) : r < h.length := by
  obtain ⟨o, ho, _⟩ := hR.as r hA
  exact (List.getElem?_eq_some_iff.1 ho).1

theorem OwnAt.lt {es : Nat} {l : List (List C)} {b off cap : Nat} (h : OwnAt S g w es l b off cap) : b < w.heap.size := by
  obtain ⟨cs, elem, hb, _⟩ := h.blk
  exact heap_lt hb

theorem OwnAt.mono {es : Nat} {l : List (List C)} {b off cap : Nat} (h : OwnAt S g w es l b off cap) (hl : g.Le g') (hb : w'.heap[b]? = w.heap[b]?)
    (hM : ∀ o, g'.M b o = g.M b o) : OwnAt S g' w' es l b off cap :=
  ⟨h.rel.mono hl, by rw [hb]; exact h.blk, fun o ho => by rw [hM]; exact h.spare o ho⟩

theorem claimH_lt (hR : RelH S G g h w) {r j b : Nat} (hc : ClaimH g h w r j b) : b < w.heap.size := by
  obtain ⟨cs, es, l, vals, elem, fr, a, n, cap, h1, h2, h3, h4, rfl⟩ := hc
  obtain ⟨vals', elem', hb, hs, hro⟩ := hR.ob r _ h1
  rw [hb] at h3
  simp only [Option.some.injEq, Obj.cells.injEq] at h3
  obtain ⟨rfl, rfl, rfl⟩ := h3
  have := hro j _ _ h2 h4
  cases this with
  | rc _ _ h => exact absurd rfl (h.not_own es l)
  | own es l b off cap ho => exact ho.lt

theorem claimT_lt (hR : Rel S G g nt s a w) {i b : Nat} (hc : ClaimT s.t a.tmps i b) : b < w.heap.size := by
  obtain ⟨es, l, ad, n, cap, h1, h2, rfl⟩ := hc
  have := hR.tm i
  rw [h1, h2] at this
  cases this with
  | rv _ _ h =>
    cases h with
    | sc _ _ h => exact absurd rfl (h.not_own es l)
  | own es l b off cap ho => exact ho.lt

structure Grows (g g' : Gh) (w w' : World) : Prop where
  le : g.Le g'
  A : ∀ r, g'.A r → g.A r
  keeps : Keeps (fun _ => False) w w'
  im : ∀ b o v, g'.M b o = some v → g.M b o = some v ∨ (w.heap.size ≤ b ∧ w'.cell? ⟨b, o, none⟩ = some v)
  mm : ∀ b es, g'.N b = some es → g.N b = some es ∨ (w.heap.size ≤ b ∧ ∃ n, w'.heap[b]? = some (.map es n))

theorem Grows.old (k : Grows g g' w w') {b : Nat} (hb : b < w.heap.size) : w'.heap[b]? = w.heap[b]? := k.keeps.same b hb (fun h => h)
theorem Grows.M_old (k : Grows g g' w w') {b o : Nat} (hb : b < w.heap.size) : g'.M b o = g.M b o := by
  cases e : g.M b o with
  | some v => exact k.le.im b o v e
  | none =>
    cases e' : g'.M b o with
    | none => rfl
    | some v =>
      rcases k.im b o v e' with h | ⟨h, _⟩
      · rw [e] at h; cases h
      · omega
theorem Grows.N_old (k : Grows g g' w w') {b : Nat} (hb : b < w.heap.size) : g'.N b = g.N b := by
  cases e : g.N b with
  | some v => exact k.le.mm b v e
  | none =>
    cases e' : g'.N b with
    | none => rfl
    | some v =>
      rcases k.mm b v e' with h | ⟨h, _⟩
      · rw [e] at h; cases h
      · omega

theorem Grows.own (k : Grows g g' w w') {es : Nat} {l : List (List C)} {b off cap : Nat} (h : OwnAt S g w es l b off cap) : OwnAt S g' w' es l b off cap :=
  h.mono k.le (k.old h.lt) (fun _ => k.M_old h.lt)

theorem Grows.ro (k : Grows g g' w w') {c : C} {v : Value} (h : RO S g w c v) : RO S g' w' c v := by
  cases h with
  | rc _ _ h => exact .rc _ _ (h.mono k.le)
  | own es l b off cap h => exact .own es l b off cap (k.own h)

theorem Grows.rt (k : Grows g g' w w') {c : V} {v : Value} (h : RT S g w c v) : RT S g' w' c v := by
  cases h with
  | rv _ _ h => exact .rv _ _ (h.mono k.le)
  | own es l b off cap h => exact .own es l b off cap (k.own h)

theorem KR.mono {agg : Bool} {cs : List C} {v : Value} (h : KR S g agg cs v) (hl : g.Le g') : KR S g' agg cs v := by
  obtain ⟨vs, h1, h2, h3, h4⟩ := h
  exact ⟨vs, h1, h2, h3, fun j c x a b => (h4 j c x a b).mono hl⟩

theorem Grows.robj (k : Grows g g' w w') {o : Obj} {b : Nat} (hl : live o = true → b < w.heap.size) (h : RObj S G g w o b) : RObj S G g' w' o b := by
  cases o with
  | dead => trivial
  | free => trivial
  | var cs =>
    obtain ⟨vals, elem, hb, hs, hro⟩ := h
    exact ⟨vals, elem, by rw [k.old (hl rfl)]; exact hb, hs, fun j c x a b => k.ro (hro j c x a b)⟩
  | map ka va l ph =>
    obtain ⟨es, hb, h1, h2, h3, h4⟩ := h
    exact ⟨es, by rw [k.old (hl rfl)]; exact hb, h1, h2,
      fun i e m a b => let ⟨x, y, z⟩ := h3 i e m a b; ⟨x.mono k.le, y.mono k.le, z⟩, fun p z m a b => let ⟨x, y, z⟩ := h4 p z m a b; ⟨x.mono k.le, y.mono k.le, z⟩⟩
  | loop st pend t ps x y =>
    obtain ⟨L, n, hb, h1, h2, h3, h4, h5, h6, h7, h8⟩ := h
    exact ⟨L, n, by rw [k.old (hl rfl)]; exact hb, h1, h2, h3, h4, h5, h6, fun i => (h7 i).mono k.le, h8⟩

theorem Grows.claimH (k : Grows g g' w w') (hR : RelH S G g h w) {r j b : Nat} (hc : ClaimH g' h w' r j b) : ClaimH g h w r j b := by
  obtain ⟨cs, es, l, vals, elem, fr, a, n, cap, h1, h2, h3, h4, rfl⟩ := hc
  have hA := hR.lv r _ h1 rfl
  rw [k.le.eq r hA, k.old (live_lt hR h1 rfl)] at h3
  exact ⟨cs, es, l, vals, elem, fr, a, n, cap, h1, h2, h3, h4, rfl⟩

theorem RelH.grow (hR : RelH S G g h w) (k : Grows g g' w w') : RelH S G g' h w' where
  ob := fun r o e => by
    by_cases hl : live o = true
    · rw [k.le.eq r (hR.lv r o e hl)]
      exact k.robj (fun _ => live_lt hR e hl) (hR.ob r o e)
    · cases o <;> first | trivial | exact absurd rfl hl
  as := fun r hA => hR.as r (k.A r hA)
  lv := fun r o e hl => k.le.as r (hR.lv r o e hl)
  inj := fun r r' o o' e e' hl hl' hσ => hR.inj r r' o o' e e' hl hl' (by rw [← k.le.eq r (hR.lv r o e hl), ← k.le.eq r' (hR.lv r' o' e' hl')]; exact hσ)
  im := fun b o v e => by
    rcases k.im b o v e with h | ⟨_, h⟩
    · have hb := M_lt hR h
      have := hR.im b o v h
      simp only [World.cell?] at this ⊢
      rw [k.old hb]; exact this
    · exact h
  mm := fun b es e => by
    rcases k.mm b es e with h | ⟨_, h⟩
    · obtain ⟨n, hn⟩ := hR.mm b es h
      exact ⟨n, by rw [k.old (heap_lt hn)]; exact hn⟩
    · exact h
  djM := fun r o e hl o' => by rw [k.le.eq r (hR.lv r o e hl), k.M_old (live_lt hR e hl)]; exact hR.djM r o e hl o'
  djN := fun r o e hl => by rw [k.le.eq r (hR.lv r o e hl), k.N_old (live_lt hR e hl)]; exact hR.djN r o e hl
  gl := fun id hid => (hR.gl id hid).mono k.le
  ex := fun r j r' j' b c c' => hR.ex r j r' j' b (k.claimH hR c) (k.claimH hR c')
  cl := fun r j b r' o c e hl => by rw [k.le.eq r' (hR.lv r' o e hl)]; exact hR.cl r j b r' o (k.claimH hR c) e hl

theorem Rel.grow (hR : Rel S G g nt s a w) (k : Grows g g' w w') : Rel S G g' nt s a w' where
  hp := hR.hp.grow k
  sz := hR.sz
  tm := fun i => k.rt (hR.tm i)
  exT := hR.exT
  exTH := fun i b r j c d => hR.exTH i b r j c (k.claimH hR.hp d)
  clT := fun i b r o c e hl => by rw [k.le.eq r (hR.hp.lv r o e hl)]; exact hR.clT i b r o c e hl

theorem Grows.drew (g : Gh) (w : World) : Grows g g w w.drew :=
  ⟨.refl g, fun _ h => h, ⟨Nat.le_refl _, fun _ _ _ => rfl, rfl, rfl, rfl⟩, fun _ _ _ h => .inl h, fun _ _ h => .inl h⟩
theorem Grows.refl (g : Gh) (w : World) : Grows g g w w :=
  ⟨.refl g, fun _ h => h, .refl _ w, fun _ _ _ h => .inl h, fun _ _ h => .inl h⟩
theorem Grows.alloc (g : Gh) (w : World) (o : Go.Obj) : Grows g g w (w.alloc o) :=
  ⟨.refl g, fun _ h => h, ⟨by simp, fun b hb _ => heap_alloc_old w o b hb, rfl, rfl, rfl⟩, fun _ _ _ h => .inl h, fun _ _ h => .inl h⟩

/-! ### Slots -/

theorem get_put1 (dst : Option Nat) (v : V) (t : List (Nat × V)) (i : Nat) : get (put1 dst v t) i = if dst = some i then v else get t i := by
  cases dst with
  | none => simp [put1]
  | some d => simp only [put1, get, Option.some.injEq]

theorem getD_put (a : Act) (dst : Option Nat) (x : Value) (i : Nat) (hd : ∀ d, dst = some d → d < a.tmps.size) :
    (a.put dst x).tmps.getD i undef = if dst = some i then x else a.tmps.getD i undef := by
  cases dst with
  | none => simp [Act.put]
  | some d =>
    have := hd d rfl
    simp only [Act.put, Option.some.injEq]
    by_cases e : d = i
    · subst e; simp [Array.getD_eq_getD_getElem?, this]
    · simp [Array.getD_eq_getD_getElem?, e]

theorem size_put (a : Act) (dst : Option Nat) (x : Value) : (a.put dst x).tmps.size = a.tmps.size := by cases dst <;> simp [Act.put]

theorem Rel.put (hR : Rel S G g nt s a w) {dst : Option Nat} {v : V} {x : Value} (hv : RV S g v x) (hd : ∀ d, dst = some d → d < nt) :
    Rel S G g nt { t := put1 dst v s.t, h := s.h } (a.put dst x) w := by
  have hd' : ∀ d, dst = some d → d < a.tmps.size := fun d e => by rw [hR.sz]; exact hd d e
  have hc : ∀ i b, ClaimT (put1 dst v s.t) (a.put dst x).tmps i b → ClaimT s.t a.tmps i b := by
    rintro i b ⟨es, l, ad, n, cap, h1, h2, h3⟩
    rw [get_put1] at h1
    rw [getD_put a dst x i hd'] at h2
    by_cases e : dst = some i
    · rw [if_pos e] at h1
      subst h1
      cases hv with
      | sc _ _ h => exact absurd rfl (h.not_own es l)
    · rw [if_neg e] at h1 h2
      exact ⟨es, l, ad, n, cap, h1, h2, h3⟩
  refine ⟨hR.hp, by rw [size_put]; exact hR.sz, fun i => ?_, fun i i' b c d => hR.exT i i' b (hc i b c) (hc i' b d), fun i b r j c d => hR.exTH i b r j (hc i b c) d,
    fun i b r o c e hl => hR.clT i b r o (hc i b c) e hl⟩
  show RT S g w (get (put1 dst v s.t) i) _
  rw [get_put1, getD_put a dst x i hd']
  by_cases e : dst = some i
  · rw [if_pos e, if_pos e]; exact .rv _ _ hv
  · rw [if_neg e, if_neg e]; exact hR.tm i

theorem get_drop1 (t : List (Nat × V)) (i j : Nat) : get ((i, (get t i).unown) :: t) j = if i = j then (get t i).unown else get t j := by simp only [get]

theorem V.unown_unown (v : V) : v.unown.unown = v.unown := by
  cases v with
  | sc c => cases c <;> rfl
  | agg => rfl
  | tup => rfl

theorem get_drop (l : List Nat) : ∀ (t : List (Nat × V)) (j : Nat), get (drop l t) j = if j ∈ l then (get t j).unown else get t j := by
  unfold drop
  induction l with
  | nil => intro t j; simp
  | cons i l ih =>
    intro t j
    simp only [List.foldl_cons]
    rw [ih]
    simp only [get_drop1, List.mem_cons]
    by_cases hj : j ∈ l
    · by_cases hij : i = j
      · subst hij; simp [hj, V.unown_unown]
      · simp [hj, hij]
    · by_cases hij : i = j
      · subst hij; simp [hj]
      · have : ¬ (j = i) := fun e => hij e.symm
        simp [hj, hij, this]

theorem unown_not_own (c : V) (es : Nat) (l : List (List C)) : c.unown ≠ .sc (.own es l) := by
  cases c with
  | sc c => cases c <;> simp [V.unown, Pm.unown]
  | agg => simp [V.unown]
  | tup => simp [V.unown]

theorem Rel.drop (hR : Rel S G g nt s a w) (l : List Nat) : Rel S G g nt { t := drop l s.t, h := s.h } a w := by
  have hc : ∀ i b, ClaimT (Pm.drop l s.t) a.tmps i b → ClaimT s.t a.tmps i b := by
    rintro i b ⟨es, l', ad, n, cap, h1, h2, h3⟩
    rw [get_drop] at h1
    split at h1
    · exact absurd h1 (unown_not_own _ _ _)
    · exact ⟨es, l', ad, n, cap, h1, h2, h3⟩
  refine ⟨hR.hp, hR.sz, fun i => ?_, fun i i' b c d => hR.exT i i' b (hc i b c) (hc i' b d), fun i b r j c d => hR.exTH i b r j (hc i b c) d,
    fun i b r o c e hl => hR.clT i b r o (hc i b c) e hl⟩
  show RT S g w (get (Pm.drop l s.t) i) _
  rw [get_drop]
  split
  · exact .rv _ _ (hR.tm i).unown
  · exact hR.tm i

theorem get_restrict (keep : List Nat) (t : List (Nat × V)) (i : Nat) : get (restrict keep t) i = if i ∈ keep then get t i else .sc .top := by
  unfold restrict
  induction keep with
  | nil => rfl
  | cons k ks ih =>
    simp only [List.map_cons, get, List.mem_cons]
    by_cases e : k = i
    · subst e; simp
    · have : ¬ i = k := fun h => e h.symm
      simp [e, this, ih]

theorem Rel.restrict (hR : Rel S G g nt s a w) (keep : List Nat) : Rel S G g nt { t := restrict keep s.t, h := s.h } a w := by
  have hc : ∀ i b, ClaimT (Pm.restrict keep s.t) a.tmps i b → ClaimT s.t a.tmps i b := by
    rintro i b ⟨es, l', ad, n, cap, h1, h2, h3⟩
    rw [get_restrict] at h1
    split at h1
    · exact ⟨es, l', ad, n, cap, h1, h2, h3⟩
    · cases h1
  refine ⟨hR.hp, hR.sz, fun i => ?_, fun i i' b c d => hR.exT i i' b (hc i b c) (hc i' b d), fun i b r j c d => hR.exTH i b r j (hc i b c) d,
    fun i b r o c e hl => hR.clT i b r o (hc i b c) e hl⟩
  show RT S g w (get (Pm.restrict keep s.t) i) _
  rw [get_restrict]
  split
  · exact hR.tm i
  · exact .rv _ _ (.top _)

theorem Rel.retype (hR : Rel S G g nt s a w) {t : List (Nat × V)} (ht : ∀ i, get t i = get s.t i ∨ RV S g (get t i) (a.tmps.getD i undef)) : Rel S G g nt { t := t, h := s.h } a w := by
  have hc : ∀ i b, ClaimT t a.tmps i b → ClaimT s.t a.tmps i b := by
    rintro i b ⟨es, l', ad, n, cap, h1, h2, h3⟩
    rcases ht i with e | e
    · rw [e] at h1; exact ⟨es, l', ad, n, cap, h1, h2, h3⟩
    · rw [h1] at e
      cases e with
      | sc _ _ h => exact absurd rfl (h.not_own es l')
  refine ⟨hR.hp, hR.sz, fun i => ?_, fun i i' b c d => hR.exT i i' b (hc i b c) (hc i' b d), fun i b r j c d => hR.exTH i b r j (hc i b c) d,
    fun i b r o c e hl => hR.clT i b r o (hc i b c) e hl⟩
  rcases ht i with e | e
  · show RT S g w (get t i) _
    rw [e]; exact hR.tm i
  · exact .rv _ _ e

end

end Go.Pm

namespace Go.Pm

section
variable {S : Seat} {G : List Nat} {g g' : Gh} {nt : Nat} {s : St} {a : Act} {w w' : World} {h : List Obj}

theorem rd_rv (hR : Rel S G g nt s a w) {x : Rand} {x' : Operand} (hm : MR S G x x') : RV S g (rd S.Γ s.t x) (a.eval x') := by
  cases hm with
  | t i => exact (hR.tm i).unown
  | k v x h => exact h.rv
  | f id => exact .sc _ _ (.fn id [] [] [] [] [] [] rfl rfl (fun j c v a b => by simp at a) rfl (fun j c v a b => by simp at a))
  | g id h => exact .sc _ _ (hR.hp.gl id h)

theorem rd_rt (hR : Rel S G g nt s a w) {x : Rand} {x' : Operand} (hm : MT S G x x') : RT S g w (rd S.Γ s.t x) (a.eval x') := by
  cases hm with
  | r x x' h => exact .rv _ _ (rd_rv hR h)
  | tk i => exact hR.tm i

theorem RV.ptr_inv {r off : Nat} {x : Value} (hv : RV S g (.sc (.ptr r off)) x) : g.A r ∧ x = .pointer (some ⟨g.σ r, off, none⟩) := by
  cases hv with
  | sc _ _ h => cases h with | ptr r off hA => exact ⟨hA, rfl⟩

theorem RV.sc_inv {c : C} {x : Value} (hv : RV S g (.sc c) x) (hc : c ≠ .top) : RC S g c x := by
  cases hv with
  | top => exact absurd rfl hc
  | sc _ _ h => exact h

theorem RV.int_inv {k : IntKind} {n : Int} {x : Value} (hv : RV S g (.sc (.int k n)) x) : x = .int k n := by
  cases hv with
  | sc _ _ h => cases h with | int => rfl
theorem RV.bool_inv {b : Bool} {x : Value} (hv : RV S g (.sc (.bool b)) x) : x = .bool b := by
  cases hv with
  | sc _ _ h => cases h with | bool => rfl
theorem RV.str_inv {b : ByteArray} {x : Value} (hv : RV S g (.sc (.str b)) x) : x = .string b := by
  cases hv with
  | sc _ _ h => cases h with | str => rfl
theorem RV.agg_inv {cs : List C} {x : Value} (hv : RV S g (.agg cs) x) : ∃ vals, x = .agg vals ∧ cs.length = vals.size ∧ ∀ (j : Nat) c v, cs[j]? = some c → vals[j]? = some v → RC S g c v := by
  cases hv with
  | agg _ vals hs h => exact ⟨vals, rfl, hs, h⟩

theorem eptr_inv {cs : List C} {off : Nat} {x : Value} (hv : RV S g (.sc (.eptr cs off)) x) :
    ∃ b o, x = .pointer (some ⟨b, o + off, none⟩) ∧ C.pureL cs = true ∧ ∀ (j : Nat) c, cs[j]? = some c → ∃ y, g.M b (o + j) = some y ∧ RC S g c y := by
  cases hv with
  | sc _ _ h =>
    cases h with
    | eptr _ _ b o vals hp hM hr => exact ⟨b, o, rfl, hp, fun j c hj => ⟨vals j, hM j (List.getElem?_eq_some_iff.1 hj).1, hr j c hj⟩⟩

theorem elems_inv {es : Nat} {l : List (List C)} {v : V} {x : Value} (he : elems es v = some l) (hv : RV S g v x) :
    (l = [] ∧ x = .slice none 0 0) ∨ ∃ b off cap, x = .slice (some ⟨b, off, none⟩) l.length cap ∧ l.length ≤ cap ∧ (∀ (i : Nat) e, l[i]? = some e → e.length = es ∧ C.pureL e = true) ∧
      ∀ (i : Nat) e (j : Nat) c, l[i]? = some e → e[j]? = some c → ∃ y, g.M b (off + i * es + j) = some y ∧ RC S g c y := by
  unfold elems at he
  split at he
  · rename_i k es' l'
    split at he
    · rename_i e
      subst e
      simp only [Option.some.injEq] at he
      subst he
      cases hv with
      | sc _ _ h =>
        cases h with
        | slNil => exact .inl ⟨rfl, rfl⟩
        | sl k es l b off cap vals hk hf hc hl hp hM hr =>
          exact .inr ⟨b, off, cap, rfl, hc, fun i e hi => ⟨hl i e hi, hp i e hi⟩, fun i e j c hi hj => ⟨vals i j, hM i e j hi (by rw [← hl i e hi]; exact (List.getElem?_eq_some_iff.1 hj).1), hr i e j c hi hj⟩⟩
    · cases he
  · rename_i es' l'
    cases hv with
    | sc _ _ h => exact absurd rfl (h.not_own _ _)
  · cases he

theorem cellsAt_spec : ∀ (n : Nat) (cs : List C) (off : Nat) (l : List C), cellsAt cs off n = some l → l.length = n ∧ ∀ j, j < n → l[j]? = cs[off + j]?
  | 0, cs, off, l, e => by simp only [cellsAt, Option.some.injEq] at e; subst e; exact ⟨rfl, fun j hj => by omega⟩
  | n + 1, cs, off, l, e => by
    simp only [cellsAt] at e
    split at e
    · rename_i c hc
      simp only [Option.map_eq_some_iff] at e
      obtain ⟨r, hr, rfl⟩ := e
      obtain ⟨h1, h2⟩ := cellsAt_spec n cs (off + 1) r hr
      refine ⟨by simp [h1], fun j hj => ?_⟩
      cases j with
      | zero => simp [hc]
      | succ j => simp only [List.getElem?_cons_succ]; rw [h2 j (by omega)]; congr 1; omega
    · cases e

theorem run_isAgg {P : Program} {t : TypeId} {d : TypeDesc} (h : P.underlying t = some d) (w : World) : (isAgg t).run P w = .ok (isAggD d) w := by
  cases d <;> simp [isAgg, run_underlying h, isAggD]

theorem run_size {P : Program} {t : TypeId} {i : TypeInfo} (h : P.info? t = some i) (w : World) : (sizeOf t).run P w = .ok i.size w := by
  simp [sizeOf, typeInfo, h]

theorem run_info {P : Program} {t : TypeId} {i : TypeInfo} (h : P.info? t = some i) (w : World) : (typeInfo t).run P w = .ok i w := by
  simp [typeInfo, h]

theorem run_zero {P : Program} {t : TypeId} {i : TypeInfo} {z : Value} (h : P.info? t = some i) (hz : i.zero = some z) (w : World) : (zeroValue t).run P w = .ok z w := by
  simp [zeroValue, typeInfo, h, hz]

theorem load_sound {cs : List C} {b o off : Nat} {n : Option Nat} {t : TypeId} {v : V} (hs : TSh S.P t n)
    (hc : ∀ (j : Nat) c, cs[j]? = some c → ∃ y, w.cell? ⟨b, o + j, none⟩ = some y ∧ RO S g w c y) (e : loadFrom cs off n = some v) :
    ∃ y, (loadVar t ⟨b, o + off, none⟩).run S.P w = .ok y w ∧ RV S g v y := by
  cases n with
  | none =>
    obtain ⟨d, hd, ha⟩ := hs
    simp only [loadFrom, Option.map_eq_some_iff] at e
    obtain ⟨c, hj, rfl⟩ := e
    obtain ⟨y, hy, hr⟩ := hc off c hj
    exact ⟨y, by simp [loadVar, run_isAgg hd, ha, hy], .sc _ _ hr.unown⟩
  | some k =>
    obtain ⟨d, i, hd, ha, hi, hk⟩ := hs
    simp only [loadFrom, Option.map_eq_some_iff] at e
    obtain ⟨l, hl, rfl⟩ := e
    obtain ⟨h1, h2⟩ := cellsAt_spec k cs off l hl
    have hall : ∀ j, j < k → ∃ y, w.cell? ⟨b, o + off + j, none⟩ = some y ∧ ∃ c, l[j]? = some c ∧ RO S g w c y := fun j hj => by
      have hj' : j < l.length := by omega
      have e1 := h2 j hj
      rw [List.getElem?_eq_getElem hj'] at e1
      obtain ⟨y, hy, hr⟩ := hc (off + j) l[j] e1.symm
      exact ⟨y, by rw [Nat.add_assoc]; exact hy, l[j], List.getElem?_eq_getElem hj', hr⟩
    let f : Nat → Value := fun j => (w.cell? ⟨b, o + off + j, none⟩).getD undef
    have hrun := run_loadCells (P := S.P) w ⟨b, o + off, none⟩ k f (fun j hj => by
      obtain ⟨y, hy, _⟩ := hall j hj
      rw [Addr.add_none]; simp [f, hy])
    refine ⟨.agg ((List.range k).map f).toArray, by simp [loadVar, run_isAgg hd, ha, run_size hi, hk, hrun], .agg _ _ (by simp [h1]) fun j c x hc' hx => ?_⟩
    have hj : j < k := by
      have := (List.getElem?_eq_some_iff.1 hc').1
      simp at this; omega
    obtain ⟨y, hy, c0, hc0, hr⟩ := hall j hj
    simp only [List.getElem?_map, hc0, Option.map_some, Option.some.injEq] at hc'
    subst hc'
    simp [hj, f, hy] at hx
    subst hx
    exact hr.unown

theorem part_sound {cs : List C} {vals : Array Value} {off : Nat} {n : Option Nat} {t : TypeId} {v : V} (hs : TSh S.P t n) (hlen : cs.length = vals.size)
    (hc : ∀ (j : Nat) c x, cs[j]? = some c → vals[j]? = some x → RC S g c x) (e : loadFrom cs off n = some v) :
    ∃ y, (part t vals off).run S.P w = .ok y w ∧ RV S g v y := by
  have get : ∀ (j : Nat) c, cs[j]? = some c → ∃ y, vals[j]? = some y ∧ RC S g c y := fun j c hj => by
    have : j < vals.size := by rw [← hlen]; exact (List.getElem?_eq_some_iff.1 hj).1
    exact ⟨vals[j], Array.getElem?_eq_getElem this, hc j c _ hj (Array.getElem?_eq_getElem this)⟩
  cases n with
  | none =>
    obtain ⟨d, hd, ha⟩ := hs
    simp only [loadFrom, Option.map_eq_some_iff] at e
    obtain ⟨c, hj, rfl⟩ := e
    obtain ⟨y, hy, hr⟩ := get off c hj
    exact ⟨y, by simp [part, run_isAgg hd, ha, hy], .sc _ _ (by rw [hr.unown_eq]; exact hr)⟩
  | some k =>
    obtain ⟨d, i, hd, ha, hi, hk⟩ := hs
    simp only [loadFrom, Option.map_eq_some_iff] at e
    obtain ⟨l, hl, rfl⟩ := e
    obtain ⟨h1, h2⟩ := cellsAt_spec k cs off l hl
    have hle : k = 0 ∨ off + k ≤ vals.size := by
      by_cases hk0 : k = 0
      · exact .inl hk0
      · right
        have e1 := h2 (k - 1) (by omega)
        rw [List.getElem?_eq_getElem (by omega)] at e1
        have := (List.getElem?_eq_some_iff.1 e1.symm).1
        omega
    refine ⟨.agg (vals.extract off (off + k)), by simp [part, run_isAgg hd, ha, run_size hi, hk], .agg _ _ (by simp [h1]; omega) fun j c x hc' hx => ?_⟩
    have hj : j < k := by
      have := (List.getElem?_eq_some_iff.1 hc').1
      simp at this; omega
    have e1 := h2 j hj
    simp only [List.getElem?_map, Option.map_eq_some_iff] at hc'
    obtain ⟨c0, hc0, rfl⟩ := hc'
    rw [hc0] at e1
    obtain ⟨y, hy, hr⟩ := get (off + j) c0 e1.symm
    rw [hr.unown_eq]
    rw [Array.getElem?_extract] at hx
    split at hx
    · rw [hy] at hx; cases hx; exact hr
    · cases hx

def Looks (S : Seat) (g : Gh) (a : Act) (w : World) (o : Go.Op) (v : V) : Prop :=
  ∀ o' : Go.Oper, o'.op = o → ∃ x, (execOp a.eval o').run S.P w = .ok (.value x) w ∧ RV S g v x

variable {base : Nat} {v : V} {ws : List (Nat × Obj)}

theorem pick_ok (hR : Rel S G g nt s a w) {c x y : Rand} {c' x' y' : Operand} (h1 : MR S G c c') (h2 : MR S G x x') (h3 : MR S G y y')
    (e : eff base h (rd S.Γ s.t) (.pick c x y) = some (v, ws)) : ws = [] ∧ Looks S g a w (.pick c' x' y') v := by
  have hc := rd_rv hR h1
  simp only [eff] at e
  split at e
  · rename_i b
    simp only [Option.some.injEq, Prod.mk.injEq] at e
    obtain ⟨rfl, rfl⟩ := e
    rw [b] at hc
    exact ⟨rfl, fun o ho => ⟨_, by simp [execOp, ho, hc.bool_inv, asBool], rd_rv hR h2⟩⟩
  · rename_i b
    simp only [Option.some.injEq, Prod.mk.injEq] at e
    obtain ⟨rfl, rfl⟩ := e
    rw [b] at hc
    exact ⟨rfl, fun o ho => ⟨_, by simp [execOp, ho, hc.bool_inv, asBool], rd_rv hR h3⟩⟩
  · cases e

theorem load_ok (hR : Rel S G g nt s a w) {n : Option Nat} {x : Rand} {x' : Operand} {t : TypeId} (h1 : MR S G x x') (hs : TSh S.P t n)
    (e : eff base s.h (rd S.Γ s.t) (.load n x) = some (v, ws)) : ws = [] ∧ Looks S g a w (.load t x') v := by
  have hx := rd_rv hR h1
  simp only [eff] at e
  split at e
  · rename_i p off hp
    rw [hp] at hx
    obtain ⟨hA, hx⟩ := hx.ptr_inv
    split at e
    · rename_i cs hcs
      simp only [Option.map_eq_some_iff, Prod.mk.injEq] at e
      obtain ⟨v', hv, rfl, rfl⟩ := e
      obtain ⟨vals, elem, hb, hs', hro⟩ := hR.hp.ob p _ hcs
      obtain ⟨y, hy, hrv⟩ := load_sound (w := w) (g := g) (b := g.σ p) (o := 0) hs (fun j c hj => by
        have : j < vals.size := Nat.lt_of_lt_of_le (List.getElem?_eq_some_iff.1 hj).1 hs'
        exact ⟨vals[j], by rw [Nat.zero_add, cell_of_heap hb, Array.getElem?_eq_getElem this], hro j c _ hj (Array.getElem?_eq_getElem this)⟩) hv
      rw [Nat.zero_add] at hy
      exact ⟨rfl, fun o ho => ⟨y, by simp [execOp, ho, hx, Instr.loadAt, Instr.sureAddr, hy], hrv⟩⟩
    · cases e
  · rename_i cs off hp
    rw [hp] at hx
    obtain ⟨b, o, rfl', hpure, hM⟩ := eptr_inv hx
    simp only [Option.map_eq_some_iff, Prod.mk.injEq] at e
    obtain ⟨v', hv, rfl, rfl⟩ := e
    obtain ⟨y, hy, hrv⟩ := load_sound (w := w) (g := g) (b := b) (o := o) hs (fun j c hj => by
      obtain ⟨y, hy, hr⟩ := hM j c hj
      exact ⟨y, hR.hp.im _ _ _ hy, .rc _ _ hr⟩) hv
    exact ⟨rfl, fun o' ho => ⟨y, by simp [execOp, ho, rfl', Instr.loadAt, Instr.sureAddr, hy], hrv⟩⟩
  · cases e

theorem un_ok (hR : Rel S G g nt s a w) {op : UnOp} {x : Rand} {x' : Operand} {t : TypeId} (h1 : MR S G x x')
    (e : eff base h (rd S.Γ s.t) (.un op x) = some (v, ws)) : ws = [] ∧ Looks S g a w (.unOp op t x') v := by
  have hx := rd_rv hR h1
  simp only [eff, one, Option.map_eq_some_iff, Prod.mk.injEq] at e
  obtain ⟨c, hc, rfl, rfl⟩ := e
  unfold un at hc
  split at hc
  · rename_i k n hp
    rw [hp] at hx
    cases op <;> simp only [Option.some.injEq, reduceCtorEq] at hc
    subst hc
    exact ⟨rfl, fun o ho => ⟨_, by simp [execOp, ho, hx.int_inv, Op.unary, Op.intArith], .sc _ _ (.int _ _)⟩⟩
  · rename_i b hp
    rw [hp] at hx
    cases op <;> simp only [Option.some.injEq, reduceCtorEq] at hc
    subst hc
    exact ⟨rfl, fun o ho => ⟨_, by simp [execOp, ho, hx.bool_inv, Op.unary], .sc _ _ (.bool _)⟩⟩
  · cases hc

theorem conv_ok (hR : Rel S G g nt s a w) {k : IntKind} {x : Rand} {x' : Operand} {src dst : TypeId} {d : TypeDesc} (h1 : MR S G x x')
    (hd : S.P.underlying dst = some (.int k)) (hs : S.P.underlying src = some d)
    (e : eff base h (rd S.Γ s.t) (.conv k x) = some (v, ws)) : ws = [] ∧ Looks S g a w (.convert src dst x') v := by
  have hx := rd_rv hR h1
  simp only [eff] at e
  split at e
  · rename_i k' n hp
    rw [hp] at hx
    simp only [Option.some.injEq, Prod.mk.injEq] at e
    obtain ⟨rfl, rfl⟩ := e
    exact ⟨rfl, fun o ho => ⟨_, by simp [execOp, ho, hx.int_inv, convert, run_underlying hs, run_underlying hd, Conv.intToInt], .sc _ _ (.int _ _)⟩⟩
  · cases e

theorem arith_run {op : BinOp} {k : IntKind} {x y : Int} {c : C} {t : TypeId} (hc : arith op k x y = some c) :
    ∃ y', (binOp op t (.int k x) (.int k y)).run S.P w = .ok y' w ∧ RC S g c y' := by
  cases op <;> simp only [arith, Option.some.injEq, reduceCtorEq] at hc <;>
    first
      | (subst hc; refine ⟨.int k _, ?_, .int _ _⟩; simp only [binOp, ne_eq, not_true_eq_false, if_false, Op.intArith, Op.intBits, wrapBits]; rfl)
      | (subst hc; refine ⟨.bool _, ?_, .bool _⟩; simp only [binOp, ne_eq, not_true_eq_false, if_false, Op.intCmp]; rfl)
      | (split at hc
         · cases hc
         · rename_i hy
           simp only [Option.some.injEq] at hc
           subst hc
           refine ⟨.int k _, ?_, .int _ _⟩
           simp only [binOp, ne_eq, not_true_eq_false, if_false, Op.intDiv, if_neg hy]
           rfl)

theorem bin_ok (hR : Rel S G g nt s a w) {op : BinOp} {x y : Rand} {x' y' : Operand} {t t2 : TypeId} (h1 : MR S G x x') (h2 : MR S G y y')
    (e : eff base h (rd S.Γ s.t) (.bin op x y) = some (v, ws)) : ws = [] ∧ Looks S g a w (.binOp op t x' y' t2) v := by
  have hx := rd_rv hR h1
  have hy := rd_rv hR h2
  simp only [eff, one, Option.map_eq_some_iff, Prod.mk.injEq] at e
  obtain ⟨c, hc, rfl, rfl⟩ := e
  refine ⟨rfl, fun o ho => ?_⟩
  unfold bin at hc
  split at hc
  · rename_i k n k' m hp hq
    rw [hp] at hx
    rw [hq] at hy
    have hg : ∀ w, (eqGuard op t x' y' (.int k n) (.int k' m)).run S.P w = .ok () w := fun w => by
      cases op <;> simp [eqGuard]
    split at hc
    · unfold shifted at hc
      split at hc
      · cases hc
      · rename_i hneg
        simp only [Option.some.injEq] at hc
        subst hc
        exact ⟨_, by simp [execOp, ho, hx.int_inv, hy.int_inv, hg, binOp, Op.shift, hneg], .sc _ _ (.int _ _)⟩
    · unfold shifted at hc
      split at hc
      · cases hc
      · rename_i hneg
        simp only [Option.some.injEq] at hc
        subst hc
        exact ⟨_, by simp [execOp, ho, hx.int_inv, hy.int_inv, hg, binOp, Op.shift, hneg], .sc _ _ (.int _ _)⟩
    · split at hc
      · rename_i hk
        subst hk
        obtain ⟨z, hz, hr⟩ := arith_run (S := S) (g := g) (w := w) (t := t) hc
        exact ⟨z, by simp [execOp, ho, hx.int_inv, hy.int_inv, hg, hz], .sc _ _ hr⟩
      · cases hc
  · rename_i p q hp hq
    rw [hp] at hx
    rw [hq] at hy
    have hg : ∀ w, (eqGuard op t x' y' (.string p) (.string q)).run S.P w = .ok () w := fun w => by
      cases op <;> simp [eqGuard]
    unfold strOp at hc
    split at hc
    · split at hc
      · rename_i hle
        simp only [Option.some.injEq] at hc
        subst hc
        have hle' : (p.size : Int) + (q.size : Int) ≤ 9223372036854775807 := by
          unfold room at hle
          omega
        exact ⟨_, by simp [execOp, ho, hx.str_inv, hy.str_inv, hg, binOp, Op.stringOp, hle'], .sc _ _ (.str _)⟩
      · cases hc
    · simp only [Option.some.injEq] at hc
      subst hc
      exact ⟨_, by simp [execOp, ho, hx.str_inv, hy.str_inv, hg, binOp, Op.stringOp], .sc _ _ (.bool _)⟩
    · simp only [Option.some.injEq] at hc
      subst hc
      exact ⟨_, by simp [execOp, ho, hx.str_inv, hy.str_inv, hg, binOp, Op.stringOp], .sc _ _ (.bool _)⟩
    · cases hc
  · cases hc

end
end Go.Pm

namespace Go.Pm

section
variable {S : Seat} {G : List Nat} {g g' : Gh} {nt : Nat} {s : St} {a : Act} {w w' : World} {h : List Obj} {base : Nat} {v : V} {ws : List (Nat × Obj)}

theorem faddr_ok (hR : Rel S G g nt s a w) {off : Nat} {x : Rand} {x' : Operand} {t : TypeId} {i : Nat} {fs : Array Field} {f : Field} (h1 : MR S G x x')
    (hu : S.P.underlying t = some (.struct fs)) (hf : fs[i]? = some f) (ho : f.offset = off) (hs : ∃ i, S.P.info? f.type = some i ∧ i.size ≠ 0)
    (e : eff base h (rd S.Γ s.t) (.faddr off x) = some (v, ws)) : ws = [] ∧ Looks S g a w (.fieldAddr t x' i) v := by
  have hx := rd_rv hR h1
  obtain ⟨fi, hfi, hsz⟩ := hs
  simp only [eff] at e
  split at e
  · rename_i p o hp
    rw [hp] at hx
    obtain ⟨hA, hx⟩ := hx.ptr_inv
    simp only [Option.some.injEq, Prod.mk.injEq] at e
    obtain ⟨rfl, rfl⟩ := e
    exact ⟨rfl, fun o' ho' => ⟨_, by simp [execOp, ho', hx, Instr.fieldAt, run_underlying hu, hf, Instr.sureAddr, fieldPlace, run_size hfi, hsz, ho, Addr.add_none], .sc _ _ (.ptr _ _ hA)⟩⟩
  · rename_i cs o hp
    rw [hp] at hx
    simp only [Option.some.injEq, Prod.mk.injEq] at e
    obtain ⟨rfl, rfl⟩ := e
    cases hx with
    | sc _ _ hx =>
      revert hx
      generalize hav : a.eval x' = av
      intro hx
      cases hx with
      | eptr _ _ b oo vals hpu hM hr =>
        exact ⟨rfl, fun o' ho' => ⟨.pointer (some ⟨b, oo + (o + off), none⟩), by simp [execOp, ho', hav, Instr.fieldAt, run_underlying hu, hf, Instr.sureAddr, fieldPlace, run_size hfi, hsz, ho, Addr.add_none, Nat.add_assoc],
          .sc _ _ (.eptr cs (o + off) b oo vals hpu hM hr)⟩⟩
  · cases e

theorem field_ok (hR : Rel S G g nt s a w) {off : Nat} {n : Option Nat} {x : Rand} {x' : Operand} {t : TypeId} {i : Nat} {fs : Array Field} {f : Field} (h1 : MR S G x x')
    (hu : S.P.underlying t = some (.struct fs)) (hf : fs[i]? = some f) (ho : f.offset = off) (hs : TSh S.P f.type n)
    (e : eff base h (rd S.Γ s.t) (.field off n x) = some (v, ws)) : ws = [] ∧ Looks S g a w (.field t x' i) v := by
  have hx := rd_rv hR h1
  simp only [eff] at e
  split at e
  · rename_i cs hp
    rw [hp] at hx
    obtain ⟨vals, hx, hsz, hc⟩ := hx.agg_inv
    simp only [Option.map_eq_some_iff, Prod.mk.injEq] at e
    obtain ⟨v', hv, rfl, rfl⟩ := e
    obtain ⟨y, hy, hrv⟩ := part_sound (S := S) (w := w) hs hsz hc hv
    exact ⟨rfl, fun o' ho' => ⟨y, by simp [execOp, ho', hx, Instr.field, run_underlying hu, hf, asAgg, ho, hy], hrv⟩⟩
  · cases e

theorem place_inv {len : Nat} {v : V} {x : Value} {j : Nat} (e : place len v = some j) (hv : RV S g v x) : ∃ k n, x = .int k n ∧ 0 ≤ n ∧ n < (len : Int) ∧ n.toNat = j := by
  unfold place at e
  split at e
  · rename_i k n
    split at e
    · rename_i hn
      simp only [Option.some.injEq] at e
      exact ⟨k, n, hv.int_inv, hn.1, hn.2, e⟩
    · cases e
  · cases e

theorem nth_inv {l : List (List C)} {v : V} {x : Value} {c : List C} (e : nth l v = some c) (hv : RV S g v x) : ∃ k n, x = .int k n ∧ 0 ≤ n ∧ n < (l.length : Int) ∧ l[n.toNat]? = some c := by
  unfold nth at e
  split at e
  · rename_i k n
    split at e
    · rename_i hn
      have := (List.getElem?_eq_some_iff.1 e).1
      exact ⟨k, n, hv.int_inv, hn, by omega, e⟩
    · cases e
  · cases e

theorem iaddr_ok (hR : Rel S G g nt s a w) {es : Nat} {x i : Rand} {x' i' : Operand} {t el : TypeId} (h1 : MR S G x x') (h2 : MR S G i i')
    (hu : S.P.underlying t = some (.slice el)) (hs : TSize S.P el es)
    (e : eff base h (rd S.Γ s.t) (.iaddr es x i) = some (v, ws)) : ws = [] ∧ Looks S g a w (.indexAddr t x' i') v := by
  have hx := rd_rv hR h1
  have hi := rd_rv hR h2
  obtain ⟨fi, hfi, hsz⟩ := hs
  simp only [eff] at e
  split at e
  · rename_i p off len cap es' hp
    rw [hp] at hx
    split at e
    · cases e
    · rename_i hes
      simp only [Option.map_eq_some_iff, Prod.mk.injEq] at e
      obtain ⟨j, hj, rfl, rfl⟩ := e
      obtain ⟨k, n, hn, h0, hlt, rfl⟩ := place_inv hj hi
      have hes : es' = es := by simpa using hes
      subst hes
      cases hx with
      | sc _ _ hx =>
        revert hx
        generalize hav : a.eval x' = av
        intro hx
        cases hx with
        | msl _ _ _ _ _ _ hA hlen _ =>
          refine ⟨rfl, fun o' ho' => ⟨.pointer (some ⟨g.σ p, off + n.toNat * es', none⟩), ?_, .sc _ _ (.ptr _ _ hA)⟩⟩
          simp [execOp, ho', hav, hn, Instr.indexAt, asIntOf, run_underlying hu, h0, hlt, run_size hfi, hsz, Addr.add_none]
  · rename_i hp
    split at e
    · rename_i l hl
      simp only [Option.map_eq_some_iff, Prod.mk.injEq] at e
      obtain ⟨c, hc, rfl, rfl⟩ := e
      obtain ⟨k, n, hn, h0, hlt, hget⟩ := nth_inv hc hi
      rcases elems_inv hl hx with ⟨rfl, _⟩ | ⟨b, off, cap, hx, hcap, hpu, hM⟩
      · simp at hget
      · refine ⟨rfl, fun o' ho' => ⟨.pointer (some ⟨b, off + n.toNat * es + 0, none⟩), ?_, ?_⟩⟩
        · simp [execOp, ho', hx, hn, Instr.indexAt, asIntOf, run_underlying hu, h0, hlt, run_size hfi, hsz, Addr.add_none]
        · have hall : ∀ j, j < c.length → ∃ y, g.M b (off + n.toNat * es + j) = some y ∧ RC S g (c.getD j .top) y := fun j hj => by
            obtain ⟨y, hy, hr⟩ := hM _ _ j c[j] hget (List.getElem?_eq_getElem hj)
            exact ⟨y, hy, by simpa [List.getD_eq_getElem?_getD, List.getElem?_eq_getElem hj] using hr⟩
          refine .sc _ _ (.eptr c 0 b (off + n.toNat * es) (fun j => (g.M b (off + n.toNat * es + j)).getD undef) (hpu _ _ hget).2 (fun j hj => ?_) (fun j c' hc' => ?_))
          · obtain ⟨y, hy, _⟩ := hall j hj
            simp [hy]
          · obtain ⟨y, hy, hr⟩ := hM _ _ j c' hget hc'
            simp only [hy, Option.getD_some]; exact hr
    · cases e

theorem iarr_ok (hR : Rel S G g nt s a w) {len es : Nat} {x i : Rand} {x' i' : Operand} {t el : TypeId} (h1 : MR S G x x') (h2 : MR S G i i')
    (hu : S.P.underlying t = some (.array len el)) (hs : TSize S.P el es)
    (e : eff base h (rd S.Γ s.t) (.iarr len es x i) = some (v, ws)) : ws = [] ∧ Looks S g a w (.indexAddr t x' i') v := by
  have hx := rd_rv hR h1
  have hi := rd_rv hR h2
  obtain ⟨fi, hfi, hsz⟩ := hs
  simp only [eff] at e
  split at e
  · rename_i p o j hp hj
    rw [hp] at hx
    obtain ⟨hA, hx⟩ := hx.ptr_inv
    simp only [Option.some.injEq, Prod.mk.injEq] at e
    obtain ⟨rfl, rfl⟩ := e
    obtain ⟨k, n, hn, h0, hlt, rfl⟩ := place_inv hj hi
    exact ⟨rfl, fun o' ho' => ⟨_, by simp [execOp, ho', hx, hn, Instr.indexAt, Instr.sureAddr, asIntOf, run_underlying hu, h0, hlt, run_size hfi, hsz, Addr.add_none], .sc _ _ (.ptr _ _ hA)⟩⟩
  · rename_i cs o j hp hj
    rw [hp] at hx
    simp only [Option.some.injEq, Prod.mk.injEq] at e
    obtain ⟨rfl, rfl⟩ := e
    obtain ⟨k, n, hn, h0, hlt, rfl⟩ := place_inv hj hi
    cases hx with
    | sc _ _ hx =>
      revert hx
      generalize hav : a.eval x' = av
      intro hx
      cases hx with
      | eptr _ _ b oo vals hpu hM hr =>
        exact ⟨rfl, fun o' ho' => ⟨.pointer (some ⟨b, oo + (o + n.toNat * es), none⟩),
          by simp [execOp, ho', hav, hn, Instr.indexAt, Instr.sureAddr, asIntOf, run_underlying hu, h0, hlt, run_size hfi, hsz, Addr.add_none, Nat.add_assoc], .sc _ _ (.eptr cs _ b oo vals hpu hM hr)⟩⟩
  · cases e

theorem index_ok (hR : Rel S G g nt s a w) {len es : Nat} {n : Option Nat} {x i : Rand} {x' i' : Operand} {t el : TypeId} (h1 : MR S G x x') (h2 : MR S G i i')
    (hu : S.P.underlying t = some (.array len el)) (hs : TSize S.P el es) (hn : TSh S.P el n)
    (e : eff base h (rd S.Γ s.t) (.index len es n x i) = some (v, ws)) : ws = [] ∧ Looks S g a w (.index t x' i') v := by
  have hx := rd_rv hR h1
  have hi := rd_rv hR h2
  obtain ⟨fi, hfi, hsz⟩ := hs
  simp only [eff] at e
  split at e
  · rename_i cs j hp hj
    rw [hp] at hx
    obtain ⟨vals, hx, hvs, hc⟩ := hx.agg_inv
    simp only [Option.map_eq_some_iff, Prod.mk.injEq] at e
    obtain ⟨v', hv, rfl, rfl⟩ := e
    obtain ⟨k, m, hm, h0, hlt, rfl⟩ := place_inv hj hi
    obtain ⟨y, hy, hrv⟩ := part_sound (S := S) (w := w) hn hvs hc hv
    exact ⟨rfl, fun o' ho' => ⟨y, by simp [execOp, ho', hx, hm, Instr.index, asIntOf, run_underlying hu, h0, hlt, run_size hfi, hsz, hy], hrv⟩⟩
  · cases e

theorem istr_ok (hR : Rel S G g nt s a w) {x i : Rand} {x' i' : Operand} {t : TypeId} (h1 : MR S G x x') (h2 : MR S G i i') (hu : S.P.underlying t = some .string)
    (e : eff base h (rd S.Γ s.t) (.istr x i) = some (v, ws)) : ws = [] ∧ Looks S g a w (.index t x' i') v := by
  have hx := rd_rv hR h1
  have hi := rd_rv hR h2
  simp only [eff] at e
  split at e
  · rename_i str hp
    rw [hp] at hx
    split at e
    · rename_i j hj
      simp only [Option.map_eq_some_iff, Prod.mk.injEq] at e
      obtain ⟨b, hb, rfl, rfl⟩ := e
      obtain ⟨k, m, hm, h0, hlt, rfl⟩ := place_inv hj hi
      exact ⟨rfl, fun o' ho' => ⟨.int .u8 b.toNat, by simp [execOp, ho', hx.str_inv, hm, Instr.index, asIntOf, run_underlying hu, h0, hb], .sc _ _ (.int _ _)⟩⟩
    · cases e
  · cases e

theorem ext_ok (hR : Rel S G g nt s a w) {x : Rand} {x' : Operand} {i : Nat} (h1 : MR S G x x')
    (e : eff base h (rd S.Γ s.t) (.ext x i) = some (v, ws)) : ws = [] ∧ Looks S g a w (.extract x' i) v := by
  have hx := rd_rv hR h1
  simp only [eff] at e
  split at e
  · rename_i vs hp
    rw [hp] at hx
    split at e
    · rename_i v' hv
      simp only [Option.some.injEq, Prod.mk.injEq] at e
      obtain ⟨rfl, rfl⟩ := e
      revert hx
      generalize hav : a.eval x' = av
      intro hx
      cases hx with
      | tup _ ws' hsz hr =>
        have hlt : i < ws'.size := by rw [← hsz]; exact (List.getElem?_eq_some_iff.1 hv).1
        exact ⟨rfl, fun o' ho' => ⟨ws'[i], by simp [execOp, ho', hav, Instr.extract, hlt], hr i _ _ hv (Array.getElem?_eq_getElem hlt)⟩⟩
    · cases e
  · cases e

theorem elems_len {es : Nat} {l : List (List C)} {k : SK} {x : Value} (hv : RV S g (.sc (.sl k es l)) x) : ∃ b cap, x = .slice b l.length cap := by
  cases hv with
  | sc _ _ h => cases h with
    | slNil => exact ⟨none, 0, rfl⟩
    | sl _ _ _ b off cap _ _ _ _ _ _ _ _ => exact ⟨_, cap, rfl⟩

theorem imap_inv {ka va : Bool} {l : List (List C × List C)} {x : Value} (hv : RV S g (.sc (.imap ka va l)) x) :
    (l = [] ∧ x = .map none) ∨ ∃ r es, x = .map (some r) ∧ g.N r = some es ∧ es.size = l.length ∧
      ∀ (i : Nat) e m, l[i]? = some e → es[i]? = some m → KR S g ka e.1 m.key ∧ KR S g va e.2 m.val ∧ C.pureL e.1 = true ∧ C.pureL e.2 = true := by
  cases hv with
  | sc _ _ h => cases h with
    | imapNil => exact .inl ⟨rfl, rfl⟩
    | imap _ _ _ r es kv vv hN hs hE hL hK hV =>
      refine .inr ⟨r, es, rfl, hN, hs, fun i e m hi hm => ?_⟩
      obtain ⟨m', hm', hk, hv⟩ := hE i e hi
      rw [hm] at hm'
      cases hm'
      obtain ⟨h1, h2, h3, h4, h5, h6⟩ := hL i e hi
      exact ⟨⟨kv i, hk, h1, h3, fun j c x a b => hK i e j c x hi a b⟩, ⟨vv i, hv, h2, h4, fun j c x a b => hV i e j c x hi a b⟩, h5, h6⟩

theorem len_ok (hR : Rel S G g nt s a w) {k : Nat} {x : Rand} {x' : Operand} {t : TypeId} (h1 : MR S G x x')
    (hu : (k = 0 ∧ S.P.underlying t = some .string) ∨ (k = 1 ∧ ∃ e, S.P.underlying t = some (.slice e)) ∨ (k = 2 ∧ ∃ kt e, S.P.underlying t = some (.map kt e)))
    (e : eff base s.h (rd S.Γ s.t) (.len k x) = some (v, ws)) : ws = [] ∧ Looks S g a w (.call { callee := .builtin .len, args := #[x'], argTypes := #[t] }) v := by
  have hx := rd_rv hR h1
  simp only [eff] at e
  split at e
  · rename_i k' es l hp
    rw [hp] at hx
    simp only [Option.some.injEq, Prod.mk.injEq] at e
    obtain ⟨rfl, rfl⟩ := e
    obtain ⟨hk, _⟩ | ⟨_, el, hu⟩ | ⟨hk, _⟩ := hu
    · simp at hk
    · obtain ⟨b, cap, hav⟩ := elems_len hx
      exact ⟨rfl, fun o' ho' => ⟨_, by simp [execOp, ho', resolve, invoke, builtin, Builtin.len_, run_underlying hu, hav, goInt], .sc _ _ (.int _ _)⟩⟩
    · simp at hk
  · rename_i r off n cap es hp
    rw [hp] at hx
    simp only [Option.some.injEq, Prod.mk.injEq] at e
    obtain ⟨rfl, rfl⟩ := e
    obtain ⟨hk, _⟩ | ⟨_, el, hu⟩ | ⟨hk, _⟩ := hu
    · simp at hk
    · have hav : ∃ b cap, a.eval x' = .slice b n cap := by
        cases hx with
        | sc _ _ hx =>
          revert hx
          generalize a.eval x' = av
          intro hx
          cases hx
          exact ⟨_, _, rfl⟩
      obtain ⟨b, cap, hav⟩ := hav
      exact ⟨rfl, fun o' ho' => ⟨_, by simp [execOp, ho', resolve, invoke, builtin, Builtin.len_, run_underlying hu, hav, goInt], .sc _ _ (.int _ _)⟩⟩
    · simp at hk
  · rename_i str hp
    rw [hp] at hx
    simp only [Option.some.injEq, Prod.mk.injEq] at e
    obtain ⟨rfl, rfl⟩ := e
    obtain ⟨_, hu⟩ | ⟨hk, _⟩ | ⟨hk, _⟩ := hu
    · exact ⟨rfl, fun o' ho' => ⟨_, by simp [execOp, ho', resolve, invoke, builtin, Builtin.len_, run_underlying hu, hx.str_inv, goInt], .sc _ _ (.int _ _)⟩⟩
    · simp at hk
    · simp at hk
  · rename_i ka va l hp
    rw [hp] at hx
    simp only [Option.some.injEq, Prod.mk.injEq] at e
    obtain ⟨rfl, rfl⟩ := e
    obtain ⟨hk, _⟩ | ⟨hk, _⟩ | ⟨_, kt, el, hu⟩ := hu
    · simp at hk
    · simp at hk
    · rcases imap_inv hx with ⟨rfl, hav⟩ | ⟨r, es, hav, hN, hs, _⟩
      · exact ⟨rfl, fun o' ho' => ⟨_, by simp [execOp, ho', resolve, invoke, builtin, Builtin.len_, run_underlying hu, hav, goInt], .sc _ _ (.int _ _)⟩⟩
      · obtain ⟨n, hn⟩ := hR.hp.mm r es hN
        exact ⟨rfl, fun o' ho' => ⟨_, by simp [execOp, ho', resolve, invoke, builtin, Builtin.len_, run_underlying hu, hav, goInt, hn, hs, getObj, Sem.run], .sc _ _ (.int _ _)⟩⟩
  · rename_i p hp
    rw [hp] at hx
    split at e
    · rename_i ka va l hob
      simp only [Option.some.injEq, Prod.mk.injEq] at e
      obtain ⟨rfl, rfl⟩ := e
      obtain ⟨hk, _⟩ | ⟨hk, _⟩ | ⟨_, kt, el, hu⟩ := hu
      · simp at hk
      · simp at hk
      · obtain ⟨es, hb, _, hs, _⟩ := hR.hp.ob p _ hob
        have hav : a.eval x' = .map (some (g.σ p)) := by
          cases hx with
          | sc _ _ hx =>
            revert hx
            generalize a.eval x' = av
            intro hx
            cases hx
            rfl
        simp at hs
        exact ⟨rfl, fun o' ho' => ⟨_, by simp [execOp, ho', resolve, invoke, builtin, Builtin.len_, run_underlying hu, hav, goInt, hb, hs, getObj, Sem.run], .sc _ _ (.int _ _)⟩⟩
    · cases e
  · cases e

theorem lenArr_ok {n : Nat} {x' : Operand} {t : TypeId} (hu : (∃ e, S.P.underlying t = some (.array n e)) ∨ (∃ p e, S.P.underlying t = some (.pointer p) ∧ S.P.underlying p = some (.array n e)))
    (e : eff base h (rd S.Γ s.t) (.lenArr n) = some (v, ws)) : ws = [] ∧ Looks S g a w (.call { callee := .builtin .len, args := #[x'], argTypes := #[t] }) v := by
  simp only [eff, Option.some.injEq, Prod.mk.injEq] at e
  obtain ⟨rfl, rfl⟩ := e
  refine ⟨rfl, fun o' ho' => ⟨.int .i64 n, ?_, .sc _ _ (.int _ _)⟩⟩
  rcases hu with ⟨el, hu⟩ | ⟨p, el, hu, hp⟩
  · simp [execOp, ho', resolve, invoke, builtin, Builtin.len_, run_underlying hu, goInt]
  · simp [execOp, ho', resolve, invoke, builtin, Builtin.len_, run_underlying hu, run_underlying hp, goInt]

theorem MRs_len : ∀ {xs : List Rand} {ys : List Operand}, MRs S G xs ys → xs.length = ys.length
  | [], [], _ => rfl
  | _ :: xs, _ :: ys, h => by simp [MRs_len h.2]
  | [], _ :: _, h => h.elim
  | _ :: _, [], h => h.elim

theorem MRs_rv (hR : Rel S G g nt s a w) : ∀ {xs : List Rand} {ys : List Operand}, MRs S G xs ys → ∀ (j : Nat) x y, xs[j]? = some x → ys[j]? = some y → RV S g (rd S.Γ s.t x) (a.eval y)
  | [], [], _, j, x, y, hx, _ => by simp at hx
  | p :: xs, q :: ys, h, j, x, y, hx, hy => by
    cases j with
    | zero => simp at hx hy; subst hx; subst hy; exact rd_rv hR h.1
    | succ j => exact MRs_rv hR h.2 j x y (by simpa using hx) (by simpa using hy)
  | [], _ :: _, h, _, _, _, _, _ => h.elim
  | _ :: _, [], h, _, _, _, _, _ => h.elim

theorem minOf_run (hR : Rel S G g nt s a w) {k : IntKind} : ∀ {xs : List Rand} {ys : List Operand} {n : Int} {c : C}, MRs S G xs ys → minOf k n (xs.map (rd S.Γ s.t)) = some c →
    ∃ m, c = .int k m ∧ ((ys.map a.eval).foldlM Builtin.min2 (.int k n) : Sem Value).run S.P w = .ok (.int k m) w
  | [], [], n, c, _, e => by simp only [List.map_nil, minOf, Option.some.injEq] at e; exact ⟨n, e.symm, by simp⟩
  | x :: xs, y :: ys, n, c, h, e => by
    have hx := rd_rv hR h.1
    simp only [List.map_cons] at e
    unfold minOf at e
    split at e
    · rename_i heq; cases heq
    · rename_i k' m r heq
      simp only [List.cons.injEq] at heq
      obtain ⟨he, rfl⟩ := heq
      rw [he] at hx
      obtain ⟨m', hc, hrun⟩ := minOf_run hR h.2 e
      exact ⟨m', hc, by simp [hx.int_inv, Builtin.min2, hrun]⟩
    · cases e
  | [], _ :: _, _, _, h, _ => h.elim
  | _ :: _, [], _, _, h, _ => h.elim

theorem maxOf_run (hR : Rel S G g nt s a w) {k : IntKind} : ∀ {xs : List Rand} {ys : List Operand} {n : Int} {c : C}, MRs S G xs ys → maxOf k n (xs.map (rd S.Γ s.t)) = some c →
    ∃ m, c = .int k m ∧ ((ys.map a.eval).foldlM Builtin.max2 (.int k n) : Sem Value).run S.P w = .ok (.int k m) w
  | [], [], n, c, _, e => by simp only [List.map_nil, maxOf, Option.some.injEq] at e; exact ⟨n, e.symm, by simp⟩
  | x :: xs, y :: ys, n, c, h, e => by
    have hx := rd_rv hR h.1
    simp only [List.map_cons] at e
    unfold maxOf at e
    split at e
    · rename_i heq; cases heq
    · rename_i k' m r heq
      simp only [List.cons.injEq] at heq
      obtain ⟨he, rfl⟩ := heq
      rw [he] at hx
      obtain ⟨m', hc, hrun⟩ := maxOf_run hR h.2 e
      exact ⟨m', hc, by simp [hx.int_inv, Builtin.max2, hrun]⟩
    · cases e
  | [], _ :: _, _, _, h, _ => h.elim
  | _ :: _, [], _, _, h, _ => h.elim

theorem min_ok (hR : Rel S G g nt s a w) {x : Rand} {xs : List Rand} {x' : Operand} {xs' : List Operand} {ts : Array TypeId} (h1 : MR S G x x') (h2 : MRs S G xs xs')
    (e : eff base h (rd S.Γ s.t) (.min x xs) = some (v, ws)) : ws = [] ∧ Looks S g a w (.call { callee := .builtin .min, args := (x' :: xs').toArray, argTypes := ts }) v := by
  have hx := rd_rv hR h1
  simp only [eff] at e
  split at e
  · rename_i k n hp
    rw [hp] at hx
    simp only [one, Option.map_eq_some_iff, Prod.mk.injEq] at e
    obtain ⟨c, hc, rfl, rfl⟩ := e
    obtain ⟨m, rfl, hrun⟩ := minOf_run hR h2 hc
    exact ⟨rfl, fun o' ho' => ⟨_, by simp [execOp, ho', resolve, invoke, builtin, Builtin.min_, hx.int_inv, hrun], .sc _ _ (.int _ _)⟩⟩
  · cases e

theorem max_ok (hR : Rel S G g nt s a w) {x : Rand} {xs : List Rand} {x' : Operand} {xs' : List Operand} {ts : Array TypeId} (h1 : MR S G x x') (h2 : MRs S G xs xs')
    (e : eff base h (rd S.Γ s.t) (.max x xs) = some (v, ws)) : ws = [] ∧ Looks S g a w (.call { callee := .builtin .max, args := (x' :: xs').toArray, argTypes := ts }) v := by
  have hx := rd_rv hR h1
  simp only [eff] at e
  split at e
  · rename_i k n hp
    rw [hp] at hx
    simp only [one, Option.map_eq_some_iff, Prod.mk.injEq] at e
    obtain ⟨c, hc, rfl, rfl⟩ := e
    obtain ⟨m, rfl, hrun⟩ := maxOf_run hR h2 hc
    exact ⟨rfl, fun o' ho' => ⟨_, by simp [execOp, ho', resolve, invoke, builtin, Builtin.max_, hx.int_inv, hrun], .sc _ _ (.int _ _)⟩⟩
  · cases e

theorem nilchk_ok (hR : Rel S G g nt s a w) {x : Rand} {x' : Operand} (h1 : MR S G x x')
    (e : eff base h (rd S.Γ s.t) (.nilchk x) = some (v, ws)) : ws = [] ∧ Looks S g a w (.nilCheck x') v := by
  have hx := rd_rv hR h1
  simp only [eff] at e
  split at e
  · rename_i p o hp
    rw [hp] at hx
    simp only [Option.some.injEq, Prod.mk.injEq] at e
    obtain ⟨rfl, rfl⟩ := e
    exact ⟨rfl, fun o' ho' => ⟨_, by simp [execOp, ho', hx.ptr_inv.2], .sc _ _ (.ptr _ _ hx.ptr_inv.1)⟩⟩
  · rename_i cs o hp
    rw [hp] at hx
    simp only [Option.some.injEq, Prod.mk.injEq] at e
    obtain ⟨rfl, rfl⟩ := e
    obtain ⟨b, oo, hav, _⟩ := eptr_inv hx
    exact ⟨rfl, fun o' ho' => ⟨a.eval x', by simp [execOp, ho', hav], hx⟩⟩
  · rename_i f sh fc cc hp
    rw [hp] at hx
    simp only [Option.some.injEq, Prod.mk.injEq] at e
    obtain ⟨rfl, rfl⟩ := e
    refine ⟨rfl, fun o' ho' => ⟨a.eval x', ?_, hx⟩⟩
    cases hx with
    | sc _ _ hx =>
      revert hx
      generalize hav : a.eval x' = av
      intro hx
      cases hx with
      | fn => simp [execOp, ho', hav]
      | yield => simp [execOp, ho', hav]
  · cases e

end
end Go.Pm

namespace Go.Pm

section
variable {S : Seat} {G : List Nat} {g g' : Gh} {nt : Nat} {s : St} {a : Act} {w w' : World} {h : List Obj} {base : Nat} {v : V} {ws : List (Nat × Obj)}

theorem bound_run {x : V} {x' : Value} {top top' r : Nat} {code : BoundsCode} (e : bound x top = some r) (hv : RV S g x x') (ht : top ≤ top') :
    (Instr.sliceBound x' top' code).run S.P w = .ok r w ∧ r ≤ top := by
  unfold bound at e
  split at e
  · rename_i k n
    split at e
    · rename_i hn
      simp only [Option.some.injEq] at e
      subst e
      have h2 : n ≤ (top' : Int) := by omega
      exact ⟨by simp [Instr.sliceBound, hv.int_inv, asIntOf, hn.1, h2], by omega⟩
    · cases e
  · cases e

def RVo (S : Seat) (g : Gh) : Option V → Option Value → Prop
  | none, none => True
  | some x, some y => RV S g x y
  | _, _ => False

theorem MRo_rv (hR : Rel S G g nt s a w) {x : Option Rand} {y : Option Operand} (h : MRo S G x y) : RVo S g (x.map (rd S.Γ s.t)) (y.map a.eval) := by
  cases x <;> cases y <;> first | trivial | exact h.elim | exact rd_rv hR h

theorem bounds_run {len capC l b : Nat} {cap m : Option Nat} {lo hi mx : Option V} {lo' hi' mx' : Option Value} {sl : Bool}
    (e : bounds len cap lo hi mx = some (l, b, m)) (h1 : RVo S g lo lo') (h2 : RVo S g hi hi') (h3 : RVo S g mx mx') (hc : ∀ c, cap = some c → c = capC) (hl : len ≤ capC) :
    (Instr.sliceBounds sl len capC lo' hi' mx').run S.P w = .ok (l, b, m.getD capC) w ∧ l ≤ b ∧ b ≤ len ∧ b ≤ m.getD capC ∧ m.getD capC ≤ capC := by
  unfold bounds at e
  split at e
  · cases e
  · rename_i hmh
    split at e
    · cases e
    · rename_i m0 hm0
      split at e
      · cases e
      · rename_i h0 hh0
        split at e
        · cases e
        · rename_i l0 hl0
          split at e
          · rename_i hle
            simp only [Option.some.injEq, Prod.mk.injEq] at e
            obtain ⟨rfl, rfl, rfl⟩ := e
            have caple : cap.getD len ≤ capC := by
              cases cap with
              | none => exact hl
              | some c => have := hc c rfl; simp [this]
            -- up to
            have M : (match mx' with | some v => ∀ code, (Instr.sliceBound v capC code).run S.P w = .ok (m0.getD capC) w | none => capC = m0.getD capC) ∧ m0.getD capC ≤ capC := by
              cases mx with
              | none =>
                cases mx' with
                | none =>
                  simp only [boundM, Option.some.injEq] at hm0
                  subst hm0
                  cases cap with
                  | none => exact ⟨rfl, Nat.le_refl _⟩
                  | some c => have := hc c rfl; subst this; exact ⟨rfl, Nat.le_refl _⟩
                | some _ => exact h3.elim
              | some x =>
                cases mx' with
                | none => exact h3.elim
                | some y =>
                  simp only [boundM, Option.map_eq_some_iff] at hm0
                  obtain ⟨r, hr, rfl⟩ := hm0
                  exact ⟨fun code => (bound_run (w := w) (code := code) hr h3 caple).1, by have := (bound_run (S := S) (w := w) (code := .index) hr h3 caple).2; simp; omega⟩
            have m0le : m0.getD len ≤ m0.getD capC := by
              cases m0 with
              | none => exact hl
              | some c => simp
            -- to
            have H : (match hi' with | some v => ∀ code, (Instr.sliceBound v (m0.getD capC) code).run S.P w = .ok h0 w | none => len = h0 ∧ mx' = none) ∧ h0 ≤ m0.getD capC := by
              cases hi with
              | none =>
                cases hi' with
                | some _ => exact h2.elim
                | none =>
                  simp only [boundH, Option.some.injEq] at hh0
                  subst hh0
                  cases mx with
                  | some _ => simp at hmh
                  | none =>
                    cases mx' with
                    | some _ => exact h3.elim
                    | none =>
                      refine ⟨⟨rfl, rfl⟩, ?_⟩
                      simp only [boundM, Option.some.injEq] at hm0
                      subst hm0
                      cases cap with
                      | none => exact hl
                      | some c => have := hc c rfl; subst this; exact hl
              | some x =>
                cases hi' with
                | none => exact h2.elim
                | some y => exact ⟨fun code => (bound_run (w := w) (code := code) hh0 h2 m0le).1, by have := (bound_run (S := S) (w := w) (code := .index) hh0 h2 m0le).2; omega⟩
            -- from
            have L : (match lo' with | some v => ∀ code, (Instr.sliceBound v h0 code).run S.P w = .ok l0 w | none => l0 = 0) ∧ l0 ≤ h0 := by
              cases lo with
              | none =>
                cases lo' with
                | some _ => exact h1.elim
                | none => simp only [boundL, Option.some.injEq] at hl0; subst hl0; exact ⟨rfl, Nat.zero_le _⟩
              | some x =>
                cases lo' with
                | none => exact h1.elim
                | some y => exact ⟨fun code => (bound_run (w := w) (code := code) hl0 h1 (Nat.le_refl _)).1, (bound_run (S := S) (w := w) (code := .index) hl0 h1 (Nat.le_refl _)).2⟩
            refine ⟨?_, L.2, hle, H.2, M.2⟩
            obtain ⟨M1, _⟩ := M
            obtain ⟨H1, _⟩ := H
            obtain ⟨L1, _⟩ := L
            revert M1 H1
            generalize m0.getD capC = MM
            intro M1 H1
            unfold Instr.sliceBounds
            cases mx' with
            | none =>
              dsimp only at M1
              cases hi' with
              | none =>
                dsimp only at H1
                obtain ⟨H1, _⟩ := H1
                cases lo' with
                | none => dsimp only at L1; simp only [Sem.run_bind, Sem.run_pure, Result.andThen_ok, L1, H1, M1]
                | some z => dsimp only at L1; simp only [Sem.run_bind, Sem.run_pure, Result.andThen_ok, L1, H1, M1]
              | some y =>
                dsimp only at H1
                rw [M1]
                cases lo' with
                | none => dsimp only at L1; subst L1; simp only [Sem.run_bind, Sem.run_pure, Result.andThen_ok, H1]
                | some z => dsimp only at L1; simp only [Sem.run_bind, Sem.run_pure, Result.andThen_ok, H1, L1]
            | some q =>
              dsimp only at M1
              cases hi' with
              | none => exact absurd H1.2 (by simp)
              | some y =>
                dsimp only at H1
                cases lo' with
                | none => dsimp only at L1; subst L1; simp only [Sem.run_bind, Sem.run_pure, Result.andThen_ok, M1, H1]
                | some z => dsimp only at L1; simp only [Sem.run_bind, Sem.run_pure, Result.andThen_ok, M1, H1, L1]
          · cases e

end
end Go.Pm

namespace Go.Pm

section
variable {S : Seat} {G : List Nat} {g g' : Gh} {nt : Nat} {s : St} {a : Act} {w w' : World} {h : List Obj} {base : Nat} {v : V} {ws : List (Nat × Obj)}

theorem take_drop_get {α : Type} (l : List α) (x y i : Nat) (c : α) (e : ((l.take y).drop x)[i]? = some c) : l[x + i]? = some c := by
  rw [List.getElem?_drop, List.getElem?_take] at e
  split at e
  · exact e
  · cases e

theorem sliced_run {es : Nat} {x : V} {x' : Value} {lo hi mx : Option V} {lo' hi' mx' : Option Value} {c : C} {t el : TypeId}
    (e : sliced es x lo hi mx = some c) (hx : RV S g x x') (h1 : RVo S g lo lo') (h2 : RVo S g hi hi') (h3 : RVo S g mx mx')
    (hu : S.P.underlying t = some (.slice el)) (hs : TSize S.P el es) : ∃ y, (Instr.slice t x' lo' hi' mx').run S.P w = .ok y w ∧ RC S g c y := by
  obtain ⟨fi, hfi, hsz⟩ := hs
  unfold sliced at e
  split at e
  · rename_i k es' l
    split at e
    · cases e
    · rename_i hes
      have hes : es' = es := by simpa using hes
      subst hes
      split at e
      · rename_i p q m hb
        simp only [Option.some.injEq] at e
        subst e
        cases hx with
        | sc _ _ hx =>
          cases hx with
          | slNil =>
            obtain ⟨hr, hpq, hq, hqm, hmc⟩ := bounds_run (S := S) (w := w) (sl := true) (capC := 0) hb h1 h2 h3 (fun c hc => by simpa [capOf] using hc.symm) (Nat.le_refl _)
            simp only [List.length_nil] at hr
            simp at hq
            subst hq
            have hp0 : p = 0 := by omega
            subst hp0
            have hm0 : m.getD 0 = 0 := by omega
            exact ⟨.slice none 0 0, by simp [Instr.slice, run_underlying hu, hr, run_size hfi, hm0], by simpa [slKind] using RC.slNil es'⟩
          | sl _ _ _ b off cap vals hk hf hc hl hp hM hr =>
            obtain ⟨hrun, hpq, hq, hqm, hmc⟩ := bounds_run (S := S) (w := w) (sl := true) (capC := cap) hb h1 h2 h3 (fun c' hc' => by
              cases k with
              | nil => exact absurd rfl hk
              | full => simp [capOf] at hc'; have := hf rfl; omega
              | shared => simp [capOf] at hc') hc
            have hlen : ((l.take q).drop p).length = q - p := by simp; omega
            have main : ∀ off', (off' = off + p * es' ∨ (l.take q).drop p = []) → RC S g (.sl (slKind k (decide (m = some q))) es' ((l.take q).drop p)) (.slice (some ⟨b, off', none⟩) (q - p) (m.getD cap - p)) := by
              intro off' ho
              rw [← hlen]
              refine .sl _ es' _ b off' _ (fun i j => vals (p + i) j) ?_ ?_ ?_ (fun i e he => hl _ e (take_drop_get l p q i e he)) (fun i e he => hp _ e (take_drop_get l p q i e he)) (fun i e j he hj => ?_) (fun i e j c he hj => hr _ e j c (take_drop_get l p q i e he) hj)
              · cases k with
                | nil => exact absurd rfl hk
                | full => simp only [slKind]; split <;> simp
                | shared => simp only [slKind]; split <;> simp
              · intro hfull
                have : m = some q := by
                  cases k with
                  | nil => exact absurd rfl hk
                  | full => simpa [slKind] using hfull
                  | shared => simpa [slKind] using hfull
                rw [this, hlen]; simp
              · rw [hlen]; omega
              · rcases ho with rfl | ho
                · rw [show off + p * es' + i * es' + j = off + (p + i) * es' + j by rw [Nat.add_mul]; omega]
                  exact hM (p + i) e j (take_drop_get l p q i e he) hj
                · rw [ho] at he; simp at he
            by_cases hm : m.getD cap = p
            · refine ⟨.slice (some ⟨b, off, none⟩) (q - p) (m.getD cap - p), by simp [Instr.slice, run_underlying hu, hrun, run_size hfi, hm], main off (.inr ?_)⟩
              apply List.eq_nil_of_length_eq_zero
              rw [hlen]; omega
            · exact ⟨.slice (some ⟨b, off + p * es', none⟩) (q - p) (m.getD cap - p), by simp [Instr.slice, run_underlying hu, hrun, run_size hfi, hm, hsz, Addr.add_none], main _ (.inl rfl)⟩
      · cases e
  · rename_i es' l
    cases hx with
    | sc _ _ hx => exact absurd rfl (hx.not_own _ _)
  · rename_i r off len cap es'
    split at e
    · cases e
    · rename_i hes
      have hes : es' = es := by simpa using hes
      subst hes
      split at e
      · rename_i p q m hb
        simp only [Option.some.injEq] at e
        subst e
        cases hx with
        | sc _ _ hx =>
          cases hx with
          | msl _ _ _ _ _ cap' hA hlen hcc =>
            obtain ⟨hrun, hpq, hq, hqm, hmc⟩ := bounds_run (S := S) (w := w) (sl := true) (capC := cap') hb h1 h2 h3 (fun c' hc' => by
              split at hc'
              · cases hc'
              · simp only [Option.some.injEq] at hc'; omega) hlen
            simp only [Option.getD_some] at hrun hqm
            by_cases hm : m = p
            · refine ⟨.slice (some ⟨g.σ r, off, none⟩) (q - p) (m - p), by simp [Instr.slice, run_underlying hu, hrun, run_size hfi, hm], ?_⟩
              rw [if_pos hm]; exact .msl _ _ _ _ _ _ hA (by omega) (.inr rfl)
            · refine ⟨.slice (some ⟨g.σ r, off + p * es', none⟩) (q - p) (m - p), by simp [Instr.slice, run_underlying hu, hrun, run_size hfi, hm, hsz, Addr.add_none], ?_⟩
              rw [if_neg hm]; exact .msl _ _ _ _ _ _ hA (by omega) (.inr rfl)
      · rename_i p q hb
        split at e
        · rename_i hp
          simp only [Option.some.injEq] at e
          subst e
          cases hx with
          | sc _ _ hx =>
            cases hx with
            | msl _ _ _ _ _ cap' hA hlen hcc =>
              obtain ⟨hrun, hpq, hq, hqm, hmc⟩ := bounds_run (S := S) (w := w) (sl := true) (capC := cap') hb h1 h2 h3 (fun c' hc' => by
                split at hc'
                · cases hc'
                · simp only [Option.some.injEq] at hc'; omega) hlen
              simp only [Option.getD_none] at hrun hqm
              by_cases hm : cap' = p
              · have hp0 : p = 0 := by omega
                obtain rfl : p = cap' := hm.symm
                refine ⟨.slice (some ⟨g.σ r, off, none⟩) (q - p) (p - p), by simp [Instr.slice, run_underlying hu, hrun, run_size hfi], ?_⟩
                have := RC.msl (S := S) (g := g) r off (q - p) 0 es' (p - p) hA (by omega) (.inl rfl)
                rw [show off + p * es' = off from by rw [hp0]; simp]
                exact this
              · exact ⟨.slice (some ⟨g.σ r, off + p * es', none⟩) (q - p) (cap' - p), by simp [Instr.slice, run_underlying hu, hrun, run_size hfi, hm, hsz, Addr.add_none], .msl _ _ _ _ _ _ hA (by omega) (.inl rfl)⟩
        · cases e
      · cases e
  · cases e

end
end Go.Pm

namespace Go.Pm

section
variable {S : Seat} {G : List Nat} {g g' : Gh} {nt : Nat} {s : St} {a : Act} {w w' : World} {h : List Obj} {base : Nat} {v : V} {ws : List (Nat × Obj)}

theorem slice_ok (hR : Rel S G g nt s a w) {es : Nat} {x : Rand} {lo hi mx : Option Rand} {x' : Operand} {lo' hi' mx' : Option Operand} {t el : TypeId} (h : MR S G x x') (h1 : MRo S G lo lo')
    (h2 : MRo S G hi hi') (h3 : MRo S G mx mx') (hu : S.P.underlying t = some (.slice el)) (hs : TSize S.P el es)
    (e : eff base s.h (rd S.Γ s.t) (.slice es x lo hi mx) = some (v, ws)) : ws = [] ∧ Looks S g a w (.slice t x' lo' hi' mx') v := by
  simp only [eff, one, Option.map_eq_some_iff, Prod.mk.injEq] at e
  obtain ⟨c, hc, rfl, rfl⟩ := e
  obtain ⟨y, hy, hr⟩ := sliced_run (w := w) hc (rd_rv hR h) (MRo_rv hR h1) (MRo_rv hR h2) (MRo_rv hR h3) hu hs
  exact ⟨rfl, fun o' ho' => ⟨y, by simp [execOp, ho', Instr.sliceAt, run_underlying hu, hy], .sc _ _ hr⟩⟩

theorem slArr_ok (hR : Rel S G g nt s a w) {n es : Nat} {x : Rand} {lo hi mx : Option Rand} {x' : Operand} {lo' hi' mx' : Option Operand} {t el : TypeId} (h : MR S G x x') (h1 : MRo S G lo lo')
    (h2 : MRo S G hi hi') (h3 : MRo S G mx mx') (hu : S.P.underlying t = some (.array n el)) (hs : TSize S.P el es)
    (e : eff base s.h (rd S.Γ s.t) (.slArr n es x lo hi mx) = some (v, ws)) : ws = [] ∧ Looks S g a w (.slice t x' lo' hi' mx') v := by
  obtain ⟨fi, hfi, hsz⟩ := hs
  have hx := rd_rv hR h
  simp only [eff, one, Option.map_eq_some_iff, Prod.mk.injEq] at e
  obtain ⟨c, hc, rfl, rfl⟩ := e
  unfold slicedArr at hc
  split at hc
  · rename_i r off hp
    rw [hp] at hx
    obtain ⟨hA, hx⟩ := hx.ptr_inv
    split at hc
    · rename_i p q m hb
      simp only [Option.some.injEq] at hc
      subst hc
      obtain ⟨hrun, hpq, hq, hqm, hmc⟩ := bounds_run (S := S) (w := w) (sl := false) (capC := n) hb (MRo_rv hR h1) (MRo_rv hR h2) (MRo_rv hR h3) (fun c' hc' => by simpa using hc'.symm) (Nat.le_refl _)
      refine ⟨rfl, fun o' ho' => ?_⟩
      by_cases hm : m.getD n = p
      · refine ⟨.slice (some ⟨g.σ r, off, none⟩) (q - p) (m.getD n - p), by simp [execOp, ho', Instr.sliceAt, run_underlying hu, hx, Instr.sureAddr, hrun, run_size hfi, hm], ?_⟩
        rw [if_pos hm]; exact .sc _ _ (.msl _ _ _ _ _ _ hA (by omega) (.inr rfl))
      · refine ⟨.slice (some ⟨g.σ r, off + p * es, none⟩) (q - p) (m.getD n - p), by simp [execOp, ho', Instr.sliceAt, run_underlying hu, hx, Instr.sureAddr, hrun, run_size hfi, hm, hsz, Addr.add_none], ?_⟩
        rw [if_neg hm]; exact .sc _ _ (.msl _ _ _ _ _ _ hA (by omega) (.inr rfl))
    · cases hc
  · cases hc

theorem slStr_ok (hR : Rel S G g nt s a w) {x : Rand} {lo hi : Option Rand} {x' : Operand} {lo' hi' : Option Operand} {t : TypeId} (h : MR S G x x') (h1 : MRo S G lo lo')
    (h2 : MRo S G hi hi') (hu : S.P.underlying t = some .string)
    (e : eff base s.h (rd S.Γ s.t) (.slStr x lo hi) = some (v, ws)) : ws = [] ∧ Looks S g a w (.slice t x' lo' hi' none) v := by
  have hx := rd_rv hR h
  simp only [eff, one, Option.map_eq_some_iff, Prod.mk.injEq] at e
  obtain ⟨c, hc, rfl, rfl⟩ := e
  unfold slicedStr at hc
  split at hc
  · rename_i str hp
    rw [hp] at hx
    split at hc
    · rename_i p q m hb
      simp only [Option.some.injEq] at hc
      subst hc
      obtain ⟨hrun, _⟩ := bounds_run (S := S) (w := w) (sl := false) (capC := str.size) (mx' := none) hb (MRo_rv hR h1) (MRo_rv hR h2) trivial (fun c' hc' => by simpa using hc'.symm) (Nat.le_refl _)
      exact ⟨rfl, fun o' ho' => ⟨.string (str.extract p q), by simp [execOp, ho', Instr.sliceAt, Instr.slice, run_underlying hu, hx.str_inv, hrun], .sc _ _ (.str _)⟩⟩
    · cases hc
  · cases hc

theorem run_equalIn_nil (dd : Nat) {t : TypeId} {d : TypeDesc} {x y : Value} {b : Bool} (hu : S.P.underlying t = some d)
    (hy : (∃ c n m, x = .slice c n m ∧ y = .slice none 0 0 ∧ (∃ e, d = .slice e) ∧ b = c.isNone) ∨
      (y = .nilFunc ∧ (∃ a b c, d = .func a b c) ∧ ((x = .nilFunc ∧ b = true) ∨ (∃ f p q, x = .func f p q) ∧ b = false)) ∨
      (∃ c, x = .pointer c ∧ y = .pointer none ∧ (∃ e, d = .pointer e) ∧ b = c.isNone)) :
    (Op.equalIn (dd + 1) t x y).run S.P w = .ok b w := by
  rcases hy with ⟨c, n, m, rfl, rfl, ⟨el, rfl⟩, rfl⟩ | ⟨rfl, ⟨a, b', c, rfl⟩, h⟩ | ⟨c, rfl, rfl, ⟨el, rfl⟩, rfl⟩
  · cases c <;> simp [Op.equalIn, run_underlying hu]
  · rcases h with ⟨rfl, rfl⟩ | ⟨⟨f, p, q, rfl⟩, rfl⟩ <;> simp [Op.equalIn, run_underlying hu]
  · cases c <;> simp [Op.equalIn, run_underlying hu]

theorem run_equal_nil {t : TypeId} {d : TypeDesc} {x y : Value} {b : Bool} (hu : S.P.underlying t = some d)
    (hy : (∃ c n m, x = .slice c n m ∧ y = .slice none 0 0 ∧ (∃ e, d = .slice e) ∧ b = c.isNone) ∨
      (y = .nilFunc ∧ (∃ a b c, d = .func a b c) ∧ ((x = .nilFunc ∧ b = true) ∨ (∃ f p q, x = .func f p q) ∧ b = false)) ∨
      (∃ c, x = .pointer c ∧ y = .pointer none ∧ (∃ e, d = .pointer e) ∧ b = c.isNone)) :
    (Op.equal t x y).run S.P w = .ok b w := run_equalIn_nil 9999 hu hy

theorem run_eq_nil {op : BinOp} {neg : Bool} {x' y' : Operand} {t : TypeId} {x y : Value} {b : Bool} (hop : op = if neg then .neq else .eql) (hy : y = .slice none 0 0 ∨ y = .nilFunc ∨ y = .pointer none)
    (hb : (Op.equal t x y).run S.P w = .ok b w) : (do eqGuard op t x' y' x y; binOp op t x y : Sem Value).run S.P w = .ok (.bool (neg ^^ b)) w := by
  have hg : (eqGuard op t x' y' x y).run S.P w = .ok () w := by
    subst hop
    rcases hy with rfl | rfl | rfl <;> cases neg <;> cases x <;> simp [eqGuard]
  have hbin : binOp op t x y = (do pure (.bool (neg ^^ (← Op.equal t x y)))) := by
    subst hop
    rcases hy with rfl | rfl | rfl <;> cases neg <;> cases x <;> simp [binOp]
  simp [hg, hbin, hb]

theorem isnil_ok (hR : Rel S G g nt s a w) {kd : Nat} {neg : Bool} {x : Rand} {x' : Operand} {y : Value} {t t2 : TypeId} {d : TypeDesc} (h : MR S G x x') (hu : S.P.underlying t = some d)
    (hy : (kd = 0 ∧ y = .slice none 0 0 ∧ ∃ e, d = .slice e) ∨ (kd = 1 ∧ y = .nilFunc ∧ ∃ a b c, d = .func a b c) ∨ (kd = 2 ∧ y = .pointer none ∧ ∃ e, d = .pointer e))
    (e : eff base s.h (rd S.Γ s.t) (.isnil kd neg x) = some (v, ws)) : ws = [] ∧ Looks S g a w (.binOp (if neg then .neq else .eql) t x' (.const y) t2) v := by
  have hx := rd_rv hR h
  have fin : ∀ b : Bool, (Op.equal t (a.eval x') y).run S.P w = .ok b w → (y = .slice none 0 0 ∨ y = .nilFunc ∨ y = .pointer none) →
      Looks S g a w (.binOp (if neg then .neq else .eql) t x' (.const y) t2) (.sc (.bool (neg ^^ b))) := by
    intro b hb hy o' ho'
    have ev : a.eval (.const y) = y := rfl
    have := run_eq_nil (S := S) (w := w) (x' := x') (y' := .const y) (neg := neg) rfl hy hb
    refine ⟨.bool (neg ^^ b), ?_, .sc _ _ (.bool _)⟩
    simp only [execOp, ho', ev, Sem.run_bind] at this ⊢
    rw [this]; rfl
  simp only [eff] at e
  split at e
  · rename_i k es l hp
    rw [hp] at hx
    simp only [Option.some.injEq, Prod.mk.injEq] at e
    obtain ⟨rfl, rfl⟩ := e
    rcases hy with ⟨_, rfl, hd⟩ | ⟨hk, _⟩ | ⟨hk, _⟩
    · have hs : ∃ b n c, a.eval x' = .slice b n c ∧ b.isNone = decide (k = .nil) := by
        cases hx with
        | sc _ _ h =>
          revert h
          generalize a.eval x' = av
          intro h
          cases h with
          | slNil => exact ⟨none, 0, 0, rfl, by simp⟩
          | sl _ _ _ b off cap _ hk _ _ _ _ _ _ => exact ⟨some _, _, cap, rfl, by simp [hk]⟩
      obtain ⟨b, n, c, hav, hb⟩ := hs
      refine ⟨rfl, fin _ (run_equal_nil hu (.inl ⟨b, n, c, hav, rfl, hd, hb.symm⟩)) (by simp)⟩
    · simp at hk
    · simp at hk
  · rename_i hp
    rw [hp] at hx
    simp only [Option.some.injEq, Prod.mk.injEq] at e
    obtain ⟨rfl, rfl⟩ := e
    rcases hy with ⟨hk, _⟩ | ⟨_, rfl, hd⟩ | ⟨hk, _⟩
    · simp at hk
    · have hav : a.eval x' = .nilFunc := by
        cases hx with
        | sc _ _ h =>
          revert h
          generalize a.eval x' = av
          intro h
          cases h
          rfl
      refine ⟨rfl, by simpa using fin true (run_equal_nil hu (.inr (.inl ⟨rfl, hd, .inl ⟨hav, rfl⟩⟩))) (by simp)⟩
    · simp at hk
  · rename_i f sh p q hp
    rw [hp] at hx
    simp only [Option.some.injEq, Prod.mk.injEq] at e
    obtain ⟨rfl, rfl⟩ := e
    rcases hy with ⟨hk, _⟩ | ⟨_, rfl, hd⟩ | ⟨hk, _⟩
    · simp at hk
    · have hav : ∃ f p q, a.eval x' = .func f p q := by
        cases hx with
        | sc _ _ h =>
          revert h
          generalize a.eval x' = av
          intro h
          cases h <;> exact ⟨_, _, _, rfl⟩
      refine ⟨rfl, by simpa using fin false (run_equal_nil hu (.inr (.inl ⟨rfl, hd, .inr ⟨hav, rfl⟩⟩))) (by simp)⟩
    · simp at hk
  · rename_i hp
    rw [hp] at hx
    simp only [Option.some.injEq, Prod.mk.injEq] at e
    obtain ⟨rfl, rfl⟩ := e
    rcases hy with ⟨hk, _⟩ | ⟨hk, _⟩ | ⟨_, rfl, hd⟩
    · simp at hk
    · simp at hk
    · have hav : a.eval x' = .pointer none := by
        cases hx with
        | sc _ _ h =>
          revert h
          generalize a.eval x' = av
          intro h
          cases h
          rfl
      refine ⟨rfl, by simpa using fin true (run_equal_nil hu (.inr (.inr ⟨none, hav, rfl, hd, rfl⟩))) (by simp)⟩
  · rename_i p o hp
    rw [hp] at hx
    simp only [Option.some.injEq, Prod.mk.injEq] at e
    obtain ⟨rfl, rfl⟩ := e
    rcases hy with ⟨hk, _⟩ | ⟨hk, _⟩ | ⟨_, rfl, hd⟩
    · simp at hk
    · simp at hk
    · refine ⟨rfl, by simpa using fin false (run_equal_nil hu (.inr (.inr ⟨_, hx.ptr_inv.2, rfl, hd, rfl⟩))) (by simp)⟩
  · rename_i cs o hp
    rw [hp] at hx
    simp only [Option.some.injEq, Prod.mk.injEq] at e
    obtain ⟨rfl, rfl⟩ := e
    obtain ⟨b, oo, hav, _⟩ := eptr_inv hx
    rcases hy with ⟨hk, _⟩ | ⟨hk, _⟩ | ⟨_, rfl, hd⟩
    · simp at hk
    · simp at hk
    · refine ⟨rfl, by simpa using fin false (run_equal_nil hu (.inr (.inr ⟨_, hav, rfl, hd, rfl⟩))) (by simp)⟩
  · cases e

end
end Go.Pm

namespace Go.Pm

section
variable {S : Seat} {G : List Nat} {g g' : Gh} {nt : Nat} {s : St} {a : Act} {w w' : World} {h : List Obj} {base : Nat} {v : V} {ws : List (Nat × Obj)}

theorem unflatV_shapes : ∀ {vs : List V} {sh : List (Option Nat)} {xs : List Value}, shapes vs = some sh → vs.length = xs.length → (∀ (j : Nat) v x, vs[j]? = some v → xs[j]? = some x → RV S g v x) →
    unflatV sh (xs.flatMap fun x => x.cells.toList) = some xs ∧ (vs.flatMap V.cells).length = (xs.flatMap fun x => x.cells.toList).length ∧
      ∀ (j : Nat) c y, (vs.flatMap V.cells)[j]? = some c → (xs.flatMap fun x => x.cells.toList)[j]? = some y → RC S g c y
  | [], sh, xs, hs, hl, _ => by
    simp only [shapes, Option.some.injEq] at hs
    subst hs
    cases xs with
    | nil => exact ⟨rfl, rfl, fun j c y a => by simp at a⟩
    | cons => simp at hl
  | v :: vs, sh, xs, hs, hl, hr => by
    cases xs with
    | nil => simp at hl
    | cons x xs =>
      have hx := hr 0 v x rfl rfl
      have rest := fun sh' (hs' : shapes vs = some sh') => unflatV_shapes (xs := xs) hs' (by simpa using hl) (fun j v x a b => hr (j + 1) v x (by simpa using a) (by simpa using b))
      have join : ∀ (p : List C) (q : List Value), p.length = q.length → (∀ (j : Nat) c y, p[j]? = some c → q[j]? = some y → RC S g c y) → ∀ (p2 : List C) (q2 : List Value), p2.length = q2.length → (∀ (j : Nat) c y, p2[j]? = some c → q2[j]? = some y → RC S g c y) →
          (p ++ p2).length = (q ++ q2).length ∧ ∀ (j : Nat) c y, (p ++ p2)[j]? = some c → (q ++ q2)[j]? = some y → RC S g c y := by
        intro p q hpq h1 p2 q2 hpq2 h2
        refine ⟨by simp [hpq, hpq2], fun j c y a b => ?_⟩
        by_cases hj : j < p.length
        · rw [List.getElem?_append_left hj] at a
          rw [List.getElem?_append_left (by omega)] at b
          exact h1 j c y a b
        · rw [List.getElem?_append_right (by omega)] at a
          rw [List.getElem?_append_right (by omega)] at b
          rw [← hpq] at b
          exact h2 _ c y a b
      cases hx with
      | top => simp [shapes] at hs
      | sc c _ h =>
        have hc : V.cells (.sc c) = [c] := by cases c <;> first | rfl | exact absurd rfl h.not_top
        have hs' : (shapes vs).map (none :: ·) = some sh := by cases c <;> first | exact hs | exact absurd rfl h.not_top
        simp only [Option.map_eq_some_iff] at hs'
        obtain ⟨sh', h1, rfl⟩ := hs'
        obtain ⟨r1, r2, r3⟩ := rest sh' h1
        obtain ⟨j1, j2⟩ := join [c] [x] rfl (fun j c' y a b => by
          cases j with
          | zero => simp at a b; subst a; subst b; exact h
          | succ j => simp at a) _ _ r2 r3
        refine ⟨?_, ?_, ?_⟩
        · simp [h.cells, unflatV, r1]
        · simpa [List.flatMap_cons, hc, h.cells] using j1
        · simp only [List.flatMap_cons, hc, h.cells]
          exact j2
      | agg cs vals hsz h =>
        have hs' : (shapes vs).map (some cs.length :: ·) = some sh := hs
        simp only [Option.map_eq_some_iff] at hs'
        obtain ⟨sh', h1, rfl⟩ := hs'
        obtain ⟨r1, r2, r3⟩ := rest sh' h1
        obtain ⟨j1, j2⟩ := join cs vals.toList (by simp [hsz]) (fun j c' y a b => h j c' y a (by simpa using b)) _ _ r2 r3
        refine ⟨?_, ?_, ?_⟩
        · have hcell : (Value.agg vals).cells = vals := rfl
          simp only [List.flatMap_cons, hcell, unflatV]
          rw [if_pos (by simp [hsz])]
          have e1 : (vals.toList ++ xs.flatMap fun x => x.cells.toList).drop cs.length = xs.flatMap fun x => x.cells.toList := by
            rw [hsz, ← Array.length_toList, List.drop_left]
          have e2 : (vals.toList ++ xs.flatMap fun x => x.cells.toList).take cs.length = vals.toList := by
            rw [hsz, ← Array.length_toList, List.take_left]
          rw [e1, e2, r1]
          simp
        · exact j1
        · exact j2
      | tup => simp [shapes] at hs

theorem mkf_ok (hR : Rel S G g nt s a w) {id : Nat} {sh : List (Option Nat)} {first cap : List Rand} {first' cap' : List Operand} (h1 : MRs S G first first') (h2 : MRs S G cap cap')
    (e : eff base s.h (rd S.Γ s.t) (.mkf id sh first cap) = some (v, ws)) : ws = [] ∧ Looks S g a w (.makeFunc (.func (S.fm id)) first'.toArray cap'.toArray) v := by
  simp only [eff] at e
  split at e
  · rename_i hsh
    simp only [Option.some.injEq, Prod.mk.injEq] at e
    obtain ⟨rfl, rfl⟩ := e
    have get : ∀ {xs : List Rand} {ys : List Operand}, MRs S G xs ys → ∀ (j : Nat) v x, (xs.map (rd S.Γ s.t))[j]? = some v → (ys.map a.eval)[j]? = some x → RV S g v x := by
      intro xs ys hm j v x hv hx
      simp only [List.getElem?_map, Option.map_eq_some_iff] at hv hx
      obtain ⟨r, hr, rfl⟩ := hv
      obtain ⟨o, ho, rfl⟩ := hx
      exact MRs_rv hR hm j r o hr ho
    obtain ⟨u1, u2, u3⟩ := unflatV_shapes hsh.1 (by simp [MRs_len h1]) (get h1)
    obtain ⟨c1, c2, c3⟩ := unflatV_shapes hsh.2 (by simp [MRs_len h2]) (get h2)
    have c4 : (cap'.map a.eval).flatMap (fun x => x.cells.toList) = cap'.map a.eval := by
      have : ∀ (n : List Rand) (xs ys : List Value), unflatV (n.map fun _ => none) xs = some ys → xs = ys := by
        intro n
        induction n with
        | nil => intro xs ys h; cases xs <;> simp [unflatV] at h ⊢; exact h
        | cons _ n ih =>
          intro xs ys h
          cases xs with
          | nil => simp [unflatV] at h
          | cons x xs =>
            simp only [List.map_cons, unflatV, Option.map_eq_some_iff] at h
            obtain ⟨r, hr, rfl⟩ := h
            rw [ih _ _ hr]
      exact this cap _ _ c1
    rw [c4] at c2 c3
    refine ⟨rfl, fun o' ho' => ⟨.func (.func (S.fm id)) (first'.map a.eval).toArray (cap'.map a.eval).toArray, by simp [execOp, ho', Instr.makeFunc], .sc _ _ ?_⟩⟩
    exact .fn id sh _ _ _ _ _ u2.symm u1 u3 c2.symm c3
  · cases e

end
end Go.Pm

namespace Go.Pm

theorem keyEq_len : ∀ {ts : List Nat} {cs ds : List C} {b : Bool}, keyEq ts cs ds = some b → cs.length = ts.length ∧ ds.length = ts.length
  | [], [], [], _, _ => ⟨rfl, rfl⟩
  | t :: ts, c :: cs, d :: ds, b, e => by
    unfold keyEq at e
    split at e
    · rename_i h1 h2
      obtain ⟨h, h'⟩ := keyEq_len h2
      exact ⟨by simp [h], by simp [h']⟩
    · cases e
  | [], _ :: _, _, _, e => by simp [keyEq] at e
  | [], [], _ :: _, _, e => by simp [keyEq] at e
  | _ :: _, [], _, _, e => by simp [keyEq] at e
  | _ :: _, _ :: _, [], _, e => by simp [keyEq] at e

theorem keyEq_append : ∀ {t1 t2 : List Nat} {cs ds : List C} {b : Bool}, keyEq (t1 ++ t2) cs ds = some b →
    ∃ b1 b2, keyEq t1 (cs.take t1.length) (ds.take t1.length) = some b1 ∧ keyEq t2 (cs.drop t1.length) (ds.drop t1.length) = some b2 ∧ b = (b1 && b2)
  | [], t2, cs, ds, b, e => ⟨true, b, by simp [keyEq], by simpa using e, by simp⟩
  | t :: t1, t2, cs, ds, b, e => by
    cases cs with
    | nil => simp [keyEq] at e
    | cons c cs =>
      cases ds with
      | nil => simp [keyEq] at e
      | cons d ds =>
        rw [List.cons_append] at e
        unfold keyEq at e
        split at e
        · rename_i x y h1 h2
          obtain ⟨b1, b2, e1, e2, rfl⟩ := keyEq_append h2
          simp only [Option.some.injEq] at e
          subst e
          exact ⟨x && b1, b2, by simp [keyEq, h1, e1], by simpa using e2, by simp [Bool.and_assoc]⟩
        · cases e

section
variable {S : Seat} {G : List Nat} {g g' : Gh} {nt : Nat} {s : St} {a : Act} {w w' : World} {h : List Obj} {base : Nat} {v : V} {ws : List (Nat × Obj)}

theorem KR.agg_inv {cs : List C} {v : Value} (h : KR S g true cs v) : ∃ vals : Array Value, v = .agg vals ∧ cs.length = vals.size ∧ ∀ (j : Nat) c x, cs[j]? = some c → vals[j]? = some x → RC S g c x := by
  obtain ⟨vs, rfl, hl, _, hr⟩ := h
  exact ⟨vs.toArray, rfl, by simp [hl], fun j c x a b => hr j c x a (by simpa using b)⟩

theorem KR.one_inv {c : C} {v : Value} (h : KR S g false [c] v) : RC S g c v := by
  obtain ⟨vs, rfl, hl, _, hr⟩ := h
  cases vs with
  | nil => simp at hl
  | cons x xs => exact hr 0 c x rfl rfl

theorem KR.mk_agg {cs : List C} {vals : Array Value} (hl : cs.length = vals.size) (hr : ∀ (j : Nat) c x, cs[j]? = some c → vals[j]? = some x → RC S g c x) : KR S g true cs (.agg vals) :=
  ⟨vals.toList, by simp [ofV], by simp [hl], by simp, fun j c x a b => hr j c x a (by simpa using b)⟩

theorem KR.mk_one {c : C} {v : Value} (h : RC S g c v) : KR S g false [c] v :=
  ⟨[v], by simp [ofV], rfl, by simp, fun j c x a b => by
    cases j with
    | zero => simp at a b; subst a; subst b; exact h
    | succ j => simp at a⟩

theorem KR.of_rv {v : V} {x : Value} {agg : Bool} (h : RV S g v x) (ha : v.isAgg = agg) (ht : v ≠ .sc .top) (ht' : ∀ vs, v ≠ .tup vs) : KR S g agg v.cells x := by
  cases h with
  | top => exact absurd rfl ht
  | sc c _ h =>
    have hc : V.cells (.sc c) = [c] := by cases c <;> first | rfl | exact absurd rfl h.not_top
    have : agg = false := by rw [← ha]; rfl
    subst this
    rw [hc]; exact .mk_one h
  | agg cs vals hs h =>
    have : agg = true := by rw [← ha]; rfl
    subst this
    exact .mk_agg hs h
  | tup vs ws => exact absurd rfl (ht' vs)

theorem flat_agg {P : Program} {d : Nat} {t : TypeId} {k : KT} (h : flat P d t = some k) : ∃ u, P.underlying t = some u ∧ isAggD u = k.agg ∧ (k.agg = false → k.tags.length = 1) := by
  cases d with
  | zero => simp [flat] at h
  | succ d =>
    unfold flat at h
    cases hu : P.underlying t with
    | none => simp [hu] at h
    | some u =>
      rw [hu] at h
      cases u <;> simp only [reduceCtorEq, Option.some.injEq] at h
      case bool => subst h; exact ⟨_, rfl, rfl, fun _ => rfl⟩
      case int => subst h; exact ⟨_, rfl, rfl, fun _ => rfl⟩
      case string => subst h; exact ⟨_, rfl, rfl, fun _ => rfl⟩
      case struct fs =>
        split at h
        · cases h
        · simp only [Option.map_eq_some_iff] at h
          obtain ⟨ts, _, rfl⟩ := h
          exact ⟨_, rfl, rfl, by simp⟩
      case array len e =>
        split at h
        · split at h
          · simp only [Option.some.injEq] at h; subst h; exact ⟨_, rfl, rfl, by simp⟩
          · cases h
        · cases h

theorem part_kr {d : Nat} {e : TypeId} {k : KT} {cs : List C} {vals : Array Value} {off : Nat} (hf : flat S.P d e = some k) (hi : (S.P.info? e).map (·.size) = some k.tags.length) (hs : cs.length = vals.size)
    (hr : ∀ (j : Nat) c x, cs[j]? = some c → vals[j]? = some x → RC S g c x) (hle : off + k.tags.length ≤ cs.length) :
    ∃ y, (part e vals off).run S.P w = .ok y w ∧ KR S g k.agg ((cs.drop off).take k.tags.length) y := by
  obtain ⟨u, hu, ha, h1⟩ := flat_agg hf
  simp only [Option.map_eq_some_iff] at hi
  obtain ⟨i, hi, hsz⟩ := hi
  cases hk : k.agg with
  | false =>
    rw [hk] at ha
    have hone := h1 hk
    have hlt : off < vals.size := by omega
    have hlt' : off < cs.length := by omega
    refine ⟨vals[off], by simp [part, run_isAgg hu, ha, Array.getElem?_eq_getElem hlt], ?_⟩
    have : (cs.drop off).take k.tags.length = [cs[off]] := by
      rw [hone, List.drop_eq_getElem_cons hlt']
      rfl
    rw [this]
    exact .mk_one (hr off _ _ (List.getElem?_eq_getElem hlt') (Array.getElem?_eq_getElem hlt))
  | true =>
    rw [hk] at ha
    refine ⟨.agg (vals.extract off (off + k.tags.length)), by simp [part, run_isAgg hu, ha, run_size hi, hsz], .mk_agg (by simp; omega) fun j c x hc hx => ?_⟩
    rw [List.getElem?_take] at hc
    split at hc
    · rw [List.getElem?_drop] at hc
      rw [Array.getElem?_extract] at hx
      split at hx
      · exact hr _ _ _ hc hx
      · cases hx
    · cases hc

theorem tagEq_run {t : Nat} {c d : C} {b : Bool} {x y : Value} (h : tagEq t c d = some b) (hx : RC S g c x) (hy : RC S g d y) :
    (t = 0 ∧ ∃ p q, x = .bool p ∧ y = .bool q ∧ b = (p == q)) ∨ (t = 1 ∧ ∃ k p q, x = .int k p ∧ y = .int k q ∧ b = (p == q)) ∨ (t = 2 ∧ ∃ p q, x = .string p ∧ y = .string q ∧ b = (p == q)) := by
  unfold tagEq at h
  split at h
  · cases hx; cases hy; simp only [Option.some.injEq] at h; exact .inl ⟨rfl, _, _, rfl, rfl, h.symm⟩
  · split at h
    · rename_i hk
      subst hk
      cases hx; cases hy; simp only [Option.some.injEq] at h; exact .inr (.inl ⟨rfl, _, _, _, rfl, rfl, h.symm⟩)
    · cases h
  · cases hx; cases hy; simp only [Option.some.injEq] at h; exact .inr (.inr ⟨rfl, _, _, rfl, rfl, h.symm⟩)
  · cases h

theorem keyEq_one {t : Nat} {cs ds : List C} {b : Bool} (h : keyEq [t] cs ds = some b) : ∃ c d, cs = [c] ∧ ds = [d] ∧ tagEq t c d = some b := by
  obtain ⟨h1, h2⟩ := keyEq_len h
  cases cs with
  | nil => simp at h1
  | cons c cs =>
    cases ds with
    | nil => simp at h2
    | cons d ds =>
      simp at h1 h2
      subst h1; subst h2
      refine ⟨c, d, rfl, rfl, ?_⟩
      simp only [keyEq] at h
      split at h
      · rename_i e1 e2
        simp only [Option.some.injEq] at e2
        subst e2
        rw [e1]; simpa using h
      · cases h

def Comp (S : Seat) (g : Gh) (dd : Nat) (t : TypeId) (k : KT) : Prop :=
  ∀ (w : World) (x y : Value) (cs ds : List C) (b : Bool), KR S g k.agg cs x → KR S g k.agg ds y → keyEq k.tags cs ds = some b → (Op.equalIn dd t x y).run S.P w = .ok b w

theorem comp_fields {d dd : Nat} (IH : ∀ t k, flat S.P d t = some k → Comp S g dd t k) {cs ds : List C} {xs ys : Array Value} (hx : cs.length = xs.size) (hy : ds.length = ys.size)
    (hrx : ∀ (j : Nat) c x, cs[j]? = some c → xs[j]? = some x → RC S g c x) (hry : ∀ (j : Nat) c x, ds[j]? = some c → ys[j]? = some x → RC S g c x) :
    ∀ (fs : List Field) (off : Nat) (ts : List Nat) (b : Bool), flatFs S.P (flat S.P d) off fs = some ts → off + ts.length ≤ cs.length → off + ts.length ≤ ds.length →
      keyEq ts ((cs.drop off).take ts.length) ((ds.drop off).take ts.length) = some b → (Op.eqFields dd xs ys fs).run S.P w = .ok b w
  | [], off, ts, b, hf, _, _, he => by
    simp only [flatFs, Option.some.injEq] at hf
    subst hf
    simp only [List.length_nil, List.take_zero, keyEq, Option.some.injEq] at he
    subst he
    simp [Op.eqFields]
  | f :: fs, off, ts, b, hf, hc, hd, he => by
    unfold flatFs at hf
    split at hf
    · cases hf
    · rename_i k hk
      split at hf
      · rename_i hcond
        obtain ⟨hname, hoff, hsz⟩ := hcond
        simp only [Option.map_eq_some_iff] at hf
        obtain ⟨ts', hts', rfl⟩ := hf
        rw [List.length_append] at hc hd
        obtain ⟨p, p1, p2⟩ := part_kr (S := S) (g := g) (w := w) (off := f.offset) hk hsz hx hrx (by omega)
        obtain ⟨q, q1, q2⟩ := part_kr (S := S) (g := g) (w := w) (off := f.offset) hk hsz hy hry (by omega)
        obtain ⟨b1, b2, e1, e2, rfl⟩ := keyEq_append he
        have t1 : ∀ l : List C, ((l.drop off).take (k.tags ++ ts').length).take k.tags.length = (l.drop off).take k.tags.length := fun l => by
          rw [List.take_take]; congr 1; simp
        have t2 : ∀ l : List C, ((l.drop off).take (k.tags ++ ts').length).drop k.tags.length = (l.drop (off + k.tags.length)).take ts'.length := fun l => by
          rw [List.drop_take, List.drop_drop, List.length_append, Nat.add_sub_cancel_left]
        rw [t1, t1, ← hoff] at e1
        rw [t2, t2] at e2
        have c1 := IH f.type k hk w p q _ _ b1 p2 q2 e1
        have c2 := comp_fields IH hx hy hrx hry fs (off + k.tags.length) ts' b2 hts' (by omega) (by omega) e2
        simp only [Op.eqFields, hname, ne_eq, not_false_eq_true, if_true, Sem.run_bind, p1, q1, c1, Result.andThen_ok]
        cases b1 with
        | false => simp
        | true => simpa using c2
      · cases hf

theorem comp_items {d dd : Nat} {e : TypeId} {k : KT} (hk : flat S.P d e = some k) (IH : Comp S g dd e k) (hsz : (S.P.info? e).map (·.size) = some k.tags.length) {cs ds : List C} {xs ys : Array Value}
    (hx : cs.length = xs.size) (hy : ds.length = ys.size)
    (hrx : ∀ (j : Nat) c x, cs[j]? = some c → xs[j]? = some x → RC S g c x) (hry : ∀ (j : Nat) c x, ds[j]? = some c → ys[j]? = some x → RC S g c x) :
    ∀ (m i : Nat) (b : Bool), (i + m) * k.tags.length ≤ cs.length → (i + m) * k.tags.length ≤ ds.length →
      keyEq (List.replicate m k.tags).flatten ((cs.drop (i * k.tags.length)).take (m * k.tags.length)) ((ds.drop (i * k.tags.length)).take (m * k.tags.length)) = some b →
      (Op.eqItems dd e k.tags.length xs ys (List.range' i m)).run S.P w = .ok b w
  | 0, i, b, _, _, he => by
    simp only [List.replicate_zero, List.flatten_nil, Nat.zero_mul, List.take_zero, keyEq, Option.some.injEq] at he
    subst he
    simp [Op.eqItems]
  | m + 1, i, b, hc, hd, he => by
    have hmul : (i + (m + 1)) * k.tags.length = i * k.tags.length + k.tags.length + m * k.tags.length := by
      rw [show i + (m + 1) = i + 1 + m from by omega, Nat.add_mul, Nat.add_mul, Nat.one_mul]
    obtain ⟨p, p1, p2⟩ := part_kr (S := S) (g := g) (w := w) (off := i * k.tags.length) hk hsz hx hrx (by omega)
    obtain ⟨q, q1, q2⟩ := part_kr (S := S) (g := g) (w := w) (off := i * k.tags.length) hk hsz hy hry (by omega)
    rw [List.replicate_succ, List.flatten_cons] at he
    obtain ⟨b1, b2, e1, e2, rfl⟩ := keyEq_append he
    have hm1 : (m + 1) * k.tags.length = k.tags.length + m * k.tags.length := by rw [Nat.add_mul, Nat.one_mul, Nat.add_comm]
    have t1 : ∀ l : List C, ((l.drop (i * k.tags.length)).take ((m + 1) * k.tags.length)).take k.tags.length = (l.drop (i * k.tags.length)).take k.tags.length := fun l => by
      rw [List.take_take]; congr 1; omega
    have t2 : ∀ l : List C, ((l.drop (i * k.tags.length)).take ((m + 1) * k.tags.length)).drop k.tags.length = (l.drop ((i + 1) * k.tags.length)).take (m * k.tags.length) := fun l => by
      rw [List.drop_take, List.drop_drop, hm1, Nat.add_sub_cancel_left, Nat.add_mul, Nat.one_mul]
    rw [t1, t1] at e1
    rw [t2, t2] at e2
    have c1 := IH w p q _ _ b1 p2 q2 e1
    have c2 := comp_items hk IH hsz hx hy hrx hry m (i + 1) b2 (by rw [show i + 1 + m = i + (m + 1) from by omega]; exact hc) (by rw [show i + 1 + m = i + (m + 1) from by omega]; exact hd) e2
    rw [List.range'_succ]
    simp only [Op.eqItems, Sem.run_bind, p1, q1, c1, Result.andThen_ok]
    cases b1 with
    | false => simp
    | true => simpa using c2

theorem flatten_len {α : Type} (n : Nat) (l : List α) : (List.replicate n l).flatten.length = n * l.length := by simp

theorem comp_flat : ∀ (d : Nat) (t : TypeId) (k : KT), flat S.P d t = some k → ∀ dd, d ≤ dd → Comp S g dd t k
  | 0, t, k, hf, _, _ => by simp [flat] at hf
  | d + 1, t, k, hf, 0, h => by omega
  | d + 1, t, k, hf, dd + 1, h => by
    intro w x y cs ds b hx hy he
    have IH : ∀ t k, flat S.P d t = some k → Comp S g dd t k := fun t k hk => comp_flat d t k hk dd (by omega)
    unfold flat at hf
    cases hu : S.P.underlying t with
    | none => simp [hu] at hf
    | some u =>
      rw [hu] at hf
      cases u <;> simp only [reduceCtorEq, Option.some.injEq] at hf
      case bool =>
        subst hf
        obtain ⟨c, d', rfl, rfl, e1⟩ := keyEq_one he
        rcases tagEq_run e1 hx.one_inv hy.one_inv with ⟨_, p, q, rfl, rfl, rfl⟩ | ⟨h, _⟩ | ⟨h, _⟩
        · simp [Op.equalIn, run_underlying hu]
        · cases h
        · cases h
      case int =>
        subst hf
        obtain ⟨c, d', rfl, rfl, e1⟩ := keyEq_one he
        rcases tagEq_run e1 hx.one_inv hy.one_inv with ⟨h, _⟩ | ⟨_, k, p, q, rfl, rfl, rfl⟩ | ⟨h, _⟩
        · cases h
        · simp [Op.equalIn, run_underlying hu]
        · cases h
      case string =>
        subst hf
        obtain ⟨c, d', rfl, rfl, e1⟩ := keyEq_one he
        rcases tagEq_run e1 hx.one_inv hy.one_inv with ⟨h, _⟩ | ⟨h, _⟩ | ⟨_, p, q, rfl, rfl, rfl⟩
        · cases h
        · cases h
        · simp [Op.equalIn, run_underlying hu]
      case struct fs =>
        split at hf
        · cases hf
        · rename_i hst
          simp only [Option.map_eq_some_iff] at hf
          obtain ⟨ts, hts, rfl⟩ := hf
          obtain ⟨xs, rfl, hlx, hrx⟩ := hx.agg_inv
          obtain ⟨ys, rfl, hly, hry⟩ := hy.agg_inv
          obtain ⟨l1, l2⟩ := keyEq_len he
          have hfs : S.P.fieldsOf t = fs := by simp [Program.fieldsOf, hu]
          rw [run_equalIn_struct w dd t xs ys (by rw [hfs]; exact hu) (by simpa using hst), hfs]
          refine comp_fields IH hlx hly hrx hry fs.toList 0 ts b hts ?_ ?_ ?_
          · simp only [Nat.zero_add]; exact Nat.le_of_eq l1.symm
          · simp only [Nat.zero_add]; exact Nat.le_of_eq l2.symm
          · rw [List.drop_zero, List.drop_zero, List.take_of_length_le (Nat.le_of_eq l1), List.take_of_length_le (Nat.le_of_eq l2)]
            exact he
      case array len e =>
        split at hf
        · rename_i ke hke
          split at hf
          · rename_i hsz
            simp only [Option.some.injEq] at hf
            subst hf
            obtain ⟨xs, rfl, hlx, hrx⟩ := hx.agg_inv
            obtain ⟨ys, rfl, hly, hry⟩ := hy.agg_inv
            obtain ⟨l1, l2⟩ := keyEq_len he
            have l1' : cs.length = len * ke.tags.length := by rw [l1]; simp
            have l2' : ds.length = len * ke.tags.length := by rw [l2]; simp
            obtain ⟨i, hi, hisz⟩ := Option.map_eq_some_iff.1 hsz
            have hcells : S.P.cellsOf e = ke.tags.length := by simp [Program.cellsOf, hi, hisz]
            rw [run_equalIn_array w dd xs ys hu hi, hcells, List.range_eq_range']
            refine comp_items hke (IH e ke hke) hsz hlx hly hrx hry len 0 b ?_ ?_ ?_
            · rw [Nat.zero_add]; exact Nat.le_of_eq l1'.symm
            · rw [Nat.zero_add]; exact Nat.le_of_eq l2'.symm
            · simp only [Nat.zero_mul, List.drop_zero]
              rw [List.take_of_length_le (Nat.le_of_eq l1'), List.take_of_length_le (Nat.le_of_eq l2')]
              exact he
          · cases hf
        · cases hf

end
end Go.Pm

namespace Go.Pm

section
variable {S : Seat} {G : List Nat} {g g' : Gh} {nt : Nat} {s : St} {a : Act} {w w' : World} {h : List Obj} {base : Nat} {v : V} {ws : List (Nat × Obj)}

theorem keyEq_not_odd {ty : KT} {x y : V} {b : Bool} (hd : ∃ n, 0 < n ∧ ty.tags.length = n) (he : keyEq ty.tags x.cells y.cells = some b) : (x ≠ .sc .top ∧ ∀ vs, x ≠ .tup vs) ∧ (y ≠ .sc .top ∧ ∀ vs, y ≠ .tup vs) := by
  obtain ⟨n, hn, hl⟩ := hd
  obtain ⟨h1, h2⟩ := keyEq_len he
  refine ⟨⟨?_, ?_⟩, ⟨?_, ?_⟩⟩
  · rintro rfl; simp [V.cells] at h1; omega
  · rintro vs rfl; simp [V.cells] at h1; omega
  · rintro rfl; simp [V.cells] at h2; omega
  · rintro vs rfl; simp [V.cells] at h2; omega

theorem isAgg_not_odd {x : V} (h : x.isAgg = true) : x ≠ .sc .top ∧ ∀ vs, x ≠ .tup vs := by
  cases x <;> simp_all [V.isAgg]

theorem eqf_ok (hR : Rel S G g nt s a w) {neg : Bool} {ty : KT} {x y : Rand} {x' y' : Operand} {t t2 : TypeId} {d : Nat} (h1 : MR S G x x') (h2 : MR S G y y') (hf : flat S.P d t = some ty) (hd : d ≤ 100)
    (hty : ty.agg = true ∨ ty = ⟨false, [0]⟩) (hg : S.P.eqGuardType S.P.depth t = false)
    (e : eff base s.h (rd S.Γ s.t) (.eqf neg ty x y) = some (v, ws)) : ws = [] ∧ Looks S g a w (.binOp (if neg then .neq else .eql) t x' y' t2) v := by
  have hx := rd_rv hR h1
  have hy := rd_rv hR h2
  simp only [eff] at e
  split at e
  · rename_i hagg
    simp only [Option.map_eq_some_iff, Prod.mk.injEq] at e
    obtain ⟨b, hb, rfl, rfl⟩ := e
    have hodd : (rd S.Γ s.t x ≠ .sc .top ∧ ∀ vs, rd S.Γ s.t x ≠ .tup vs) ∧ (rd S.Γ s.t y ≠ .sc .top ∧ ∀ vs, rd S.Γ s.t y ≠ .tup vs) := by
      rcases hty with hty | hty
      · exact ⟨isAgg_not_odd (by rw [hagg.1, hty]), isAgg_not_odd (by rw [hagg.2, hty])⟩
      · exact keyEq_not_odd ⟨1, by omega, by rw [hty]; rfl⟩ hb
    have kx := KR.of_rv hx hagg.1 hodd.1.1 hodd.1.2
    have ky := KR.of_rv hy hagg.2 hodd.2.1 hodd.2.2
    have hcmp := comp_flat (S := S) (g := g) d t ty hf 10000 (by omega) w _ _ _ _ b kx ky hb
    refine ⟨rfl, fun o ho => ⟨.bool (neg ^^ b), ?_, .sc _ _ (.bool _)⟩⟩
    have key : (do eqGuard (if neg then .neq else .eql) t x' y' (a.eval x') (a.eval y'); binOp (if neg then .neq else .eql) t (a.eval x') (a.eval y') : Sem Value).run S.P w = .ok (.bool (neg ^^ b)) w := by
      rcases hty with hty | hty
      · rw [hty] at kx ky
        obtain ⟨xs, ex, _⟩ := kx.agg_inv
        obtain ⟨ys, ey, _⟩ := ky.agg_inv
        rw [ex, ey] at hcmp ⊢
        rw [Sem.run_bind, run_eqGuard_agg w _ t x' y' xs ys hg, Result.andThen_ok]
        cases neg with
        | true => rw [if_pos rfl, run_neq_struct, hcmp]; simp [Result.andThen]
        | false => rw [if_neg (by simp), run_eql_struct, hcmp]; simp [Result.andThen]
      · subst hty
        obtain ⟨c, c', e1, e2, e3⟩ := keyEq_one hb
        rw [e1] at kx
        rw [e2] at ky
        rcases tagEq_run e3 kx.one_inv ky.one_inv with ⟨_, p, q, ex, ey, rfl⟩ | ⟨h, _⟩ | ⟨h, _⟩
        · rw [ex, ey] at hcmp ⊢
          have hg' : (eqGuard (if neg then .neq else .eql) t x' y' (.bool p) (.bool q)).run S.P w = .ok () w := by cases neg <;> simp [eqGuard]
          rw [Sem.run_bind, hg', Result.andThen_ok]
          have hcmp' : (Op.equal t (.bool p) (.bool q)).run S.P w = .ok (p == q) w := hcmp
          cases neg with
          | true => simp [binOp, hcmp']
          | false => simp [binOp, hcmp']
        · cases h
        · cases h
    simp only [execOp, ho, Sem.run_bind] at key ⊢
    rw [key]; rfl
  · cases e

/-! ### Keys -/

theorem check_fields {em : Bool} {d dd : Nat} {w : World} (IH : ∀ t k, flat S.P d t = some k → ∀ cs x, KR S g k.agg cs x → cs.length = k.tags.length → (Instr.checkKey em dd t x).run S.P w = .ok () w) {cs : List C} {xs : Array Value} (hx : cs.length = xs.size)
    (hrx : ∀ (j : Nat) c x, cs[j]? = some c → xs[j]? = some x → RC S g c x) :
    ∀ (fs : List Field) (off : Nat) (ts : List Nat), flatFs S.P (flat S.P d) off fs = some ts → off + ts.length ≤ cs.length →
      (forIn fs PUnit.unit (fun f _ => do
        if f.name ≠ "_" then Instr.checkKey em dd f.type (← part f.type xs f.offset)
        pure (ForInStep.yield PUnit.unit) : Field → PUnit → Sem (ForInStep PUnit))).run S.P w = .ok PUnit.unit w
  | [], off, ts, hf, _ => by simp
  | f :: fs, off, ts, hf, hc => by
    unfold flatFs at hf
    split at hf
    · cases hf
    · rename_i k hk
      split at hf
      · rename_i hcond
        obtain ⟨hname, hoff, hsz⟩ := hcond
        simp only [Option.map_eq_some_iff] at hf
        obtain ⟨ts', hts', rfl⟩ := hf
        rw [List.length_append] at hc
        obtain ⟨p, p1, p2⟩ := part_kr (S := S) (g := g) (w := w) (off := f.offset) hk hsz hx hrx (by omega)
        have c1 := IH f.type k hk _ p p2 (by simp; omega)
        have c2 := check_fields IH hx hrx fs (off + k.tags.length) ts' hts' (by omega)
        simp only [List.forIn_cons, Sem.run_bind, hname, ne_eq, not_false_eq_true, if_true, Result.andThen_ok, p1, c1, Sem.run_pure]
        simpa using c2
      · cases hf

theorem check_flat {em : Bool} : ∀ (d : Nat) (t : TypeId) (k : KT), flat S.P d t = some k → ∀ dd, d ≤ dd → ∀ (w : World) (cs : List C) (x : Value), KR S g k.agg cs x → cs.length = k.tags.length →
    (Instr.checkKey em dd t x).run S.P w = .ok () w
  | 0, t, k, hf, _, _ => by simp [flat] at hf
  | d + 1, t, k, hf, 0, h => by omega
  | d + 1, t, k, hf, dd + 1, h => by
    intro w cs x hx hl
    have IH : ∀ t k, flat S.P d t = some k → ∀ cs x, KR S g k.agg cs x → cs.length = k.tags.length → (Instr.checkKey em dd t x).run S.P w = .ok () w :=
      fun t k hk cs x => check_flat d t k hk dd (by omega) w cs x
    unfold flat at hf
    cases hu : S.P.underlying t with
    | none => simp [hu] at hf
    | some u =>
      rw [hu] at hf
      cases u <;> simp only [reduceCtorEq, Option.some.injEq] at hf
      case bool => simp [Instr.checkKey, run_underlying hu]
      case int => simp [Instr.checkKey, run_underlying hu]
      case string => simp [Instr.checkKey, run_underlying hu]
      case struct fs =>
        split at hf
        · cases hf
        · simp only [Option.map_eq_some_iff] at hf
          obtain ⟨ts, hts, rfl⟩ := hf
          obtain ⟨xs, rfl, hlx, hrx⟩ := hx.agg_inv
          have hl' : cs.length = ts.length := hl
          have := check_fields (em := em) IH hlx hrx fs.toList 0 ts hts (by omega)
          rw [Instr.checkKey]
          simp only [Sem.run_bind, run_underlying hu, Result.andThen_ok]
          rw [← Array.forIn_toList]
          simp at this ⊢
          rw [this]; rfl
      case array len e =>
        split at hf
        · rename_i ke hke
          split at hf
          · rename_i hsz
            simp only [Option.some.injEq] at hf
            subst hf
            obtain ⟨xs, rfl, hlx, hrx⟩ := hx.agg_inv
            have hl' : cs.length = len * ke.tags.length := by rw [hl]; simp
            obtain ⟨i, hi, hisz⟩ := Option.map_eq_some_iff.1 hsz
            rw [Instr.checkKey]
            simp only [Sem.run_bind, run_underlying hu, Result.andThen_ok]
            simp only [Std.Legacy.Range.forIn_eq_forIn_range', Std.Legacy.Range.size, Nat.sub_zero, Nat.add_one_sub_one, Nat.div_one]
            have : ∀ m j, j + m ≤ len → (forIn (List.range' j m) PUnit.unit (fun i _ => do
                Instr.checkKey em dd e (← part e xs (i * (← sizeOf e)))
                pure (ForInStep.yield PUnit.unit) : Nat → PUnit → Sem (ForInStep PUnit))).run S.P w = .ok PUnit.unit w := by
              intro m
              induction m with
              | zero => intro j _; simp
              | succ m ih =>
                intro j hj
                have hle : (j + 1) * ke.tags.length ≤ len * ke.tags.length := Nat.mul_le_mul_right _ (by omega)
                rw [Nat.add_mul, Nat.one_mul] at hle
                obtain ⟨p, p1, p2⟩ := part_kr (S := S) (g := g) (w := w) (off := j * ke.tags.length) hke hsz hlx hrx (by omega)
                have c1 := IH e ke hke _ p p2 (by simp; omega)
                have c2 := ih (j + 1) (by omega)
                rw [List.range'_succ]
                simp only [List.forIn_cons, Sem.run_bind, run_size hi, hisz, Result.andThen_ok, p1, c1, Sem.run_pure]
                simpa using c2
            have h0 := this len 0 (by omega)
            simp at h0 ⊢
            rw [h0]; rfl
          · cases hf
        · cases hf

def Keys (S : Seat) (g : Gh) (agg : Bool) (l : List (List C × List C)) (es : List MapEntry) : Prop :=
  l.length = es.length ∧ ∀ (i : Nat) e m, l[i]? = some e → es[i]? = some m → KR S g agg e.1 m.key

theorem Keys.tail {agg : Bool} {e : List C × List C} {l : List (List C × List C)} {m : MapEntry} {es : List MapEntry} (h : Keys S g agg (e :: l) (m :: es)) : KR S g agg e.1 m.key ∧ Keys S g agg l es :=
  ⟨h.2 0 e m rfl rfl, by simpa using h.1, fun i e m a b => h.2 (i + 1) e m (by simpa using a) (by simpa using b)⟩

def foundAs (i : Nat) (r : Option (Nat × List C)) (es : List MapEntry) (o : Option (Nat × Value)) : Prop :=
  match r with
  | none => o = none
  | some (n, _) => ∃ m, i ≤ n ∧ es[n - i]? = some m ∧ o = some (n, m.val)

theorem findAsking_run {d : Nat} {t : TypeId} {ty : KT} (hf : flat S.P d t = some ty) (hd : d ≤ 100) {key : List C} {x : Value} (hx : KR S g ty.agg key x) (w : World) :
    ∀ (l : List (List C × List C)) (es : List MapEntry) (i : Nat) (r : Option (Nat × List C)), Keys S g ty.agg l es → find ty.tags key i l = some r →
      ∃ o, (Instr.findAsking t x es i).run S.P w = .ok o w ∧ foundAs i r es o
  | [], [], i, r, _, h => by
    simp only [find, Option.some.injEq] at h
    subst h
    exact ⟨none, by simp [Instr.findAsking], rfl⟩
  | [], m :: es, i, r, hk, _ => by have := hk.1; simp at this
  | e :: l, [], i, r, hk, _ => by have := hk.1; simp at this
  | e :: l, m :: es, i, r, hk, h => by
    obtain ⟨k1, k2⟩ := hk.tail
    unfold find at h
    split at h
    · rename_i he
      simp only [Option.some.injEq] at h
      subst h
      have hc := comp_flat (S := S) (g := g) d t ty hf 10000 (by omega) w _ _ _ _ _ hx k1 he
      exact ⟨some (i, m.val), by simp [Instr.findAsking, Op.equal, Op.maxDepth, hc], m, Nat.le_refl _, by simp, rfl⟩
    · rename_i he
      have hc := comp_flat (S := S) (g := g) d t ty hf 10000 (by omega) w _ _ _ _ _ hx k1 he
      obtain ⟨o, ho, hfd⟩ := findAsking_run hf hd hx w l es (i + 1) r k2 h
      refine ⟨o, by simp [Instr.findAsking, Op.equal, Op.maxDepth, hc, ho], ?_⟩
      cases r with
      | none => exact hfd
      | some q =>
        obtain ⟨n, c⟩ := q
        obtain ⟨m', h1, h2, h3⟩ := hfd
        exact ⟨m', by omega, by rw [show n - i = (n - (i + 1)) + 1 from by omega]; simpa using h2, h3⟩
    · cases h

theorem sameNow_run {u : TypeDesc} {t : Nat} {c d : C} {b : Bool} {x y : Value} (hu : (t = 0 ∧ u = .bool) ∨ (t = 1 ∧ ∃ k, u = .int k) ∨ (t = 2 ∧ u = .string)) (h : tagEq t c d = some b) (hx : RC S g c x) (hy : RC S g d y) :
    Instr.sameNow u x y = some b := by
  rcases tagEq_run h hx hy with ⟨ht, p, q, rfl, rfl, rfl⟩ | ⟨ht, k, p, q, rfl, rfl, rfl⟩ | ⟨ht, p, q, rfl, rfl, rfl⟩
  · rcases hu with ⟨h, rfl⟩ | ⟨h, _⟩ | ⟨h, _⟩ <;> first | (simp [Instr.sameNow]; done) | omega
  · rcases hu with ⟨h, _⟩ | ⟨h, k', rfl⟩ | ⟨h, _⟩ <;> first | (simp [Instr.sameNow]; done) | omega
  · rcases hu with ⟨h, _⟩ | ⟨h, _⟩ | ⟨h, rfl⟩ <;> first | (simp [Instr.sameNow]; done) | omega

theorem findNow_run {u : TypeDesc} {t : Nat} (hu : (t = 0 ∧ u = .bool) ∨ (t = 1 ∧ ∃ k, u = .int k) ∨ (t = 2 ∧ u = .string)) {key : List C} {x : Value} (hx : KR S g false key x) :
    ∀ (l : List (List C × List C)) (es : List MapEntry) (i : Nat) (r : Option (Nat × List C)), Keys S g false l es → find [t] key i l = some r →
      ∃ o, Instr.findNow u x es i = some o ∧ foundAs i r es o
  | [], [], i, r, _, h => by
    simp only [find, Option.some.injEq] at h
    subst h
    exact ⟨none, by simp [Instr.findNow], rfl⟩
  | [], m :: es, i, r, hk, _ => by have := hk.1; simp at this
  | e :: l, [], i, r, hk, _ => by have := hk.1; simp at this
  | e :: l, m :: es, i, r, hk, h => by
    obtain ⟨k1, k2⟩ := hk.tail
    unfold find at h
    split at h
    · rename_i he
      simp only [Option.some.injEq] at h
      subst h
      obtain ⟨c, c', e1, e2, e3⟩ := keyEq_one he
      rw [e1] at hx
      rw [e2] at k1
      exact ⟨some (i, m.val), by simp [Instr.findNow, sameNow_run hu e3 hx.one_inv k1.one_inv], m, Nat.le_refl _, by simp, rfl⟩
    · rename_i he
      obtain ⟨c, c', e1, e2, e3⟩ := keyEq_one he
      obtain ⟨o, ho, hfd⟩ := findNow_run hu hx l es (i + 1) r k2 h
      rw [e1] at hx
      rw [e2] at k1
      refine ⟨o, by simp [Instr.findNow, sameNow_run hu e3 hx.one_inv k1.one_inv, ho], ?_⟩
      cases r with
      | none => exact hfd
      | some q =>
        obtain ⟨n, c⟩ := q
        obtain ⟨m', h1, h2, h3⟩ := hfd
        exact ⟨m', by omega, by rw [show n - i = (n - (i + 1)) + 1 from by omega]; simpa using h2, h3⟩
    · cases h

theorem findNow_agg {u : TypeDesc} (hu : isAggD u = true) {x : Value} : ∀ (es : List MapEntry) (i : Nat), Instr.findNow u x es i = none ∨ (es = [] ∧ Instr.findNow u x es i = some none)
  | [], i => .inr ⟨rfl, by simp [Instr.findNow]⟩
  | m :: es, i => by
    left
    cases u <;> simp [isAggD] at hu <;> simp [Instr.findNow, Instr.sameNow]

theorem findKey_run {d : Nat} {t : TypeId} {ty : KT} (hf : flat S.P d t = some ty) (hd : d ≤ 100) {key : List C} {x : Value} (hx : KR S g ty.agg key x) (w : World)
    {l : List (List C × List C)} {es : List MapEntry} {r : Option (Nat × List C)} (hk : Keys S g ty.agg l es) (h : find ty.tags key 0 l = some r) :
    ∃ o, (Instr.findKey t x es).run S.P w = .ok o w ∧ foundAs 0 r es o := by
  obtain ⟨u, hu, ha, _⟩ := flat_agg hf
  obtain ⟨o, ho, hfd⟩ := findAsking_run hf hd hx w l es 0 r hk h
  cases hag : ty.agg with
  | true =>
    rw [hag] at ha
    rcases findNow_agg (x := x) ha es 0 with h0 | ⟨rfl, h0⟩
    · exact ⟨o, by simp [Instr.findKey, run_underlying hu, h0, ho], hfd⟩
    · refine ⟨none, by simp [Instr.findKey, run_underlying hu, h0], ?_⟩
      have : o = none := by
        simp [Instr.findAsking] at ho
        exact ho.symm
      rw [this] at hfd; exact hfd
  | false =>
    obtain ⟨d', rfl⟩ : ∃ d', d = d' + 1 := by
      cases d with
      | zero => simp [flat] at hf
      | succ d' => exact ⟨d', rfl⟩
    have hk' := hk
    rw [hag] at hx hk' ha
    unfold flat at hf
    rw [hu] at hf
    have fin : ∀ t', ty = ⟨false, [t']⟩ → ((t' = 0 ∧ u = .bool) ∨ (t' = 1 ∧ ∃ k, u = .int k) ∨ (t' = 2 ∧ u = .string)) → ∃ o, (Instr.findKey t x es).run S.P w = .ok o w ∧ foundAs 0 r es o := by
      intro t' hty hc
      rw [hty] at h
      obtain ⟨o, ho, hfd⟩ := findNow_run hc hx l es 0 r hk' h
      exact ⟨o, by simp [Instr.findKey, run_underlying hu, ho], hfd⟩
    cases u <;> simp only [reduceCtorEq, Option.some.injEq, isAggD] at hf ha
    case bool => exact fin 0 hf.symm (.inl ⟨rfl, rfl⟩)
    case int k => exact fin 1 hf.symm (.inr (.inl ⟨rfl, _, rfl⟩))
    case string => exact fin 2 hf.symm (.inr (.inr ⟨rfl, rfl⟩))

end
end Go.Pm

namespace Go.Pm

section
variable {S : Seat} {G : List Nat} {g g' : Gh} {nt : Nat} {s : St} {a : Act} {w w' : World} {h : List Obj} {base : Nat} {v : V} {ws : List (Nat × Obj)}

theorem cellEq_eq {c d : C} (h : cellEq c d = some true) : c = d := by
  unfold cellEq at h
  split at h
  · split at h
    · rename_i hk; subst hk; simp at h; subst h; rfl
    · cases h
  · simp at h; subst h; rfl
  · simp at h; subst h; rfl
  · cases h

theorem cellsEq_eq : ∀ {cs ds : List C}, cellsEq cs ds = some true → cs = ds
  | [], [], _ => rfl
  | c :: cs, d :: ds, h => by
    unfold cellsEq at h
    split at h
    · rename_i x y h1 h2
      simp only [Option.some.injEq, Bool.and_eq_true] at h
      obtain ⟨rfl, rfl⟩ := h
      rw [cellEq_eq h1, cellsEq_eq h2]
    · cases h
  | [], _ :: _, h => by simp [cellsEq] at h
  | _ :: _, [], h => by simp [cellsEq] at h

theorem find_append {ts : List Nat} {key : List C} (e : List C × List C) : ∀ (l : List (List C × List C)) (i : Nat),
    find ts key i (l ++ [e]) = match find ts key i l with
      | some (some q) => some (some q)
      | some none => (match keyEq ts key e.1 with
        | some true => some (some (i + l.length, e.2))
        | some false => some none
        | none => none)
      | none => none
  | [], i => by
    simp only [List.nil_append, find, List.length_nil, Nat.add_zero]
    try rfl
  | x :: l, i => by
    simp only [List.cons_append, find]
    cases hx : keyEq ts key x.1 with
    | none => rfl
    | some b =>
      cases b with
      | true => rfl
      | false =>
        simp only
        rw [find_append e l (i + 1), List.length_cons, Nat.add_right_comm, Nat.add_assoc]

theorem find_spec {ts : List Nat} {key : List C} : ∀ (l : List (List C × List C)) (i n : Nat) (c : List C), find ts key i l = some (some (n, c)) → i ≤ n ∧ ∃ e, l[n - i]? = some e ∧ c = e.2 ∧ keyEq ts key e.1 = some true
  | [], i, n, c, h => by simp [find] at h
  | x :: l, i, n, c, h => by
    simp only [find] at h
    split at h
    · rename_i hx
      simp only [Option.some.injEq, Prod.mk.injEq] at h
      obtain ⟨rfl, rfl⟩ := h
      exact ⟨Nat.le_refl _, x, by simp, rfl, hx⟩
    · obtain ⟨h1, e, h2, h3⟩ := find_spec l (i + 1) n c h
      exact ⟨by omega, e, by rw [show n - i = (n - (i + 1)) + 1 from by omega]; simpa using h2, h3⟩
    · cases h

theorem ofShape_rv {va : Bool} {cs : List C} {v : V} {x : Value} (e : ofShape va cs = some v) (h : KR S g va cs x) : RV S g v x := by
  unfold ofShape at e
  cases va with
  | true =>
    simp only [if_true, Option.some.injEq] at e
    subst e
    obtain ⟨vals, rfl, hl, hr⟩ := h.agg_inv
    exact .agg _ _ hl hr
  | false =>
    simp only [Bool.false_eq_true, if_false] at e
    split at e
    · simp only [Option.some.injEq] at e
      subst e
      exact .sc _ _ h.one_inv
    · cases e

def Ents (S : Seat) (g : Gh) (ka va : Bool) (l : List (List C × List C)) (es : List MapEntry) : Prop :=
  l.length = es.length ∧ ∀ (i : Nat) e m, l[i]? = some e → es[i]? = some m → KR S g ka e.1 m.key ∧ KR S g va e.2 m.val

theorem Ents.keys {ka va : Bool} {l : List (List C × List C)} {es : List MapEntry} (h : Ents S g ka va l es) : Keys S g ka l es := ⟨h.1, fun i e m a b => (h.2 i e m a b).1⟩

theorem imap_ents {ka va : Bool} {l : List (List C × List C)} {x : Value} (hR : RelH S G g h w) (hv : RV S g (.sc (.imap ka va l)) x) :
    (l = [] ∧ x = .map none) ∨ ∃ r es n, x = .map (some r) ∧ w.heap[r]? = some (.map es n) ∧ Ents S g ka va l es.toList := by
  cases hv with
  | sc _ _ hc =>
    cases hc with
    | imapNil => exact .inl ⟨rfl, rfl⟩
    | imap _ _ _ r es kv vv hN hs hE hL hK hV =>
      obtain ⟨n, hn⟩ := hR.mm r es hN
      refine .inr ⟨r, es, n, rfl, hn, by simp [hs], fun i e m hi hm => ?_⟩
      obtain ⟨m', hm', hk, hv⟩ := hE i e hi
      obtain ⟨l1, l2, l3, l4, _, _⟩ := hL i e hi
      rw [Array.getElem?_toList, hm'] at hm
      simp only [Option.some.injEq] at hm
      subst hm
      exact ⟨⟨kv i, hk, l1, l3, fun j c x a b => hK i e j c x hi a b⟩, ⟨vv i, hv, l2, l4, fun j c x a b => hV i e j c x hi a b⟩⟩

theorem map_ents {r : Nat} {ka va : Bool} {l : List (List C × List C)} {ph : Option (List C × List C)} (hR : RelH S G g h w) (hr : h[r]? = some (.map ka va l ph)) :
    ∃ es : Array MapEntry, w.heap[g.σ r]? = some (.map es es.size) ∧ Ents S g ka va (l ++ ph.toList) es.toList := by
  obtain ⟨es, h1, h2, h3, h4, h5⟩ := hR.ob r _ hr
  refine ⟨es, h1, ?_, fun i e m hi hm => ?_⟩
  · cases ph <;> simp_all
  · rw [Array.getElem?_toList] at hm
    by_cases hlt : i < l.length
    · rw [List.getElem?_append_left hlt] at hi
      obtain ⟨x, y, _⟩ := h4 i e m hi hm
      exact ⟨x, y⟩
    · rw [List.getElem?_append_right (by omega)] at hi
      cases ph with
      | none => simp at hi
      | some p =>
        simp at hi
        have hlen : i = l.length := by
          have := (Array.getElem?_eq_some_iff.1 hm).1
          rw [h3] at this
          simp at this
          omega
        subst hlen
        simp at hi
        subst hi
        obtain ⟨x, y, _⟩ := h5 p.1 p.2 m rfl hm
        exact ⟨x, y⟩

def Told (S : Seat) (g : Gh) (va : Bool) (z : V) : Option (Nat × List C) → Value → Bool → Prop
  | none, y, b => b = false ∧ RV S g z y
  | some q, y, b => b = true ∧ KR S g va q.2 y

theorem fits_kr {ty : KT} {v : V} {x : Value} {d : Nat} {t : TypeId} (hf : flat S.P d t = some ty) (h : fits ty v = true) (hv : RV S g v x) : KR S g ty.agg v.cells x ∧ v.cells.length = ty.tags.length := by
  simp only [fits, Bool.and_eq_true, beq_iff_eq] at h
  obtain ⟨u, _, _, h1⟩ := flat_agg hf
  refine ⟨.of_rv hv h.1 ?_ ?_, h.2⟩
  · rintro rfl
    have ha : ty.agg = false := h.1.symm
    have := h1 ha
    have h2 := h.2
    simp [V.cells] at h2
    omega
  · rintro vs rfl
    have ha : ty.agg = false := h.1.symm
    have := h1 ha
    have h2 := h.2
    simp [V.cells] at h2
    omega

theorem lookup_run {ok : Bool} {ty : KT} {va : Bool} {z : V} {t kt et : TypeId} {d : Nat} {key : List C} {x k : Value} {es : List MapEntry} {l : List (List C × List C)} {r : Option (Nat × List C)}
    (hu : S.P.underlying t = some (.map kt et)) (hz : TZeroV S.P et z) (hf : flat S.P d kt = some ty) (hd : d ≤ 100) (hx : (x = .map none ∧ es = []) ∨ ∃ r n es', x = .map (some r) ∧ w.heap[r]? = some (.map es' n) ∧ es'.toList = es)
    (hE : Ents S g ty.agg va l es) (hk : KR S g ty.agg key k) (hlen : key.length = ty.tags.length) (hfind : find ty.tags key 0 l = some r) :
    ∃ y b, (Instr.lookup t x k ok).run S.P w = .ok (if ok then .tuple #[y, .bool b] else y) w ∧ Told S g va z r y b := by
  have hck : ∀ em, (Instr.checkKey em 10000 kt k).run S.P w = .ok () w := fun em => check_flat d kt ty hf 10000 (by omega) w key k hk hlen
  obtain ⟨o, ho, hfd⟩ := findKey_run hf hd hk w hE.keys hfind
  obtain ⟨i, zv, hi, hzv, hKV⟩ := hz
  obtain ⟨y, b, hyb, htold⟩ : ∃ y b, ((match o with | some (_, v) => pure (v, true) | none => do pure (← zeroValue et, false) : Sem (Value × Bool))).run S.P w = .ok (y, b) w ∧ Told S g va z r y b := by
    cases r with
    | none =>
      have : o = none := hfd
      subst this
      exact ⟨zv, false, by simp [run_zero hi hzv], rfl, hKV.rv⟩
    | some q =>
      obtain ⟨n, c⟩ := q
      obtain ⟨m, _, hm, rfl⟩ := hfd
      obtain ⟨_, e, he, rfl, _⟩ := find_spec l 0 n c hfind
      exact ⟨m.val, true, by simp, rfl, (hE.2 _ e m he hm).2⟩
  refine ⟨y, b, ?_, htold⟩
  rcases hx with ⟨rfl, rfl⟩ | ⟨r', n, es', rfl, hr, hes⟩
  · cases o with
    | none => simp [run_zero hi hzv] at hyb; obtain ⟨rfl, rfl⟩ := hyb; simp [Instr.lookup, run_underlying hu, hck, ho, run_zero hi hzv]
    | some q => simp at hyb; obtain ⟨rfl, rfl⟩ := hyb; simp [Instr.lookup, run_underlying hu, hck, ho]
  · have hg : (getObj r').run S.P w = .ok (.map es' n) w := by simp [getObj, Sem.run, hr]
    cases o with
    | none => simp [run_zero hi hzv] at hyb; obtain ⟨rfl, rfl⟩ := hyb; simp [Instr.lookup, run_underlying hu, hg, hck, hes, ho, run_zero hi hzv]
    | some q => simp at hyb; obtain ⟨rfl, rfl⟩ := hyb; simp [Instr.lookup, run_underlying hu, hg, hck, hes, ho]

theorem entries_find {m key : V} {x : Value} {ok : Bool} {ty : KT} {z : V} {ka va : Bool} {l : List (List C × List C)} {r : Option (Nat × List C)} (hR : RelH S G g h w) (hm : RV S g m x)
    (hent : entries h ok ty z key m = some (ka, va, l)) (hfind : find ty.tags key.cells 0 l = some r) :
    ∃ es L r', ((x = .map none ∧ es = []) ∨ ∃ b n es', x = .map (some b) ∧ w.heap[b]? = some (.map es' n) ∧ es'.toList = es) ∧ Ents S g ka va L es ∧ find ty.tags key.cells 0 L = some r' ∧
      (r' = r ∨ (ok = false ∧ r = none ∧ ∃ n, r' = some (n, z.cells))) := by
  unfold entries at hent
  split at hent
  · rename_i p
    obtain ⟨hA, rfl⟩ : g.A p ∧ x = .map (some (g.σ p)) := by
      have := hm.sc_inv (by simp)
      cases this with
      | map r hA => exact ⟨hA, rfl⟩
    split at hent
    · rename_i ka' va' l' hp
      simp only [Option.some.injEq, Prod.mk.injEq] at hent
      obtain ⟨rfl, rfl, rfl⟩ := hent
      obtain ⟨es, h1, h2⟩ := map_ents hR hp
      simp at h2
      exact ⟨_, _, r, .inr ⟨_, _, es, rfl, h1, rfl⟩, h2, hfind, .inl rfl⟩
    · rename_i ka' va' l' k y hp
      split at hent
      · cases hent
      · rename_i hok
        obtain ⟨es, h1, h2⟩ := map_ents hR hp
        have hfa := find_append (ts := ty.tags) (key := key.cells) (k, y) l' 0
        split at hent
        · rename_i hkey
          simp only [Option.some.injEq, Prod.mk.injEq] at hent
          obtain ⟨rfl, rfl, rfl⟩ := hent
          refine ⟨_, _, r, .inr ⟨_, _, es, rfl, h1, rfl⟩, h2, ?_, .inl rfl⟩
          rw [Option.toList_some, hfa, hfind]
          cases r with
          | some q => rfl
          | none => simp only [hkey]
        · rename_i hkey
          split at hent
          · rename_i hzy
            simp only [Option.some.injEq, Prod.mk.injEq] at hent
            obtain ⟨rfl, rfl, rfl⟩ := hent
            have hzy' := cellsEq_eq hzy
            cases r with
            | some q =>
              refine ⟨_, _, some q, .inr ⟨_, _, es, rfl, h1, rfl⟩, h2, ?_, .inl rfl⟩
              rw [Option.toList_some, hfa, hfind]
            | none =>
              refine ⟨_, _, some (0 + l'.length, y), .inr ⟨_, _, es, rfl, h1, rfl⟩, h2, ?_, .inr ⟨by simpa using hok, rfl, 0 + l'.length, by rw [hzy']⟩⟩
              rw [Option.toList_some, hfa, hfind]
              simp only [hkey]
          · cases hent
        · cases hent
    · cases hent
  · rename_i ka' va' l'
    simp only [Option.some.injEq, Prod.mk.injEq] at hent
    obtain ⟨rfl, rfl, rfl⟩ := hent
    rcases imap_ents hR hm with ⟨rfl, rfl⟩ | ⟨b, es, n, rfl, h1, h2⟩
    · exact ⟨[], [], r, .inl ⟨rfl, rfl⟩, ⟨rfl, fun i e m a b => by simp at a⟩, hfind, .inl rfl⟩
    · exact ⟨_, _, r, .inr ⟨b, n, es, rfl, h1, rfl⟩, h2, hfind, .inl rfl⟩
  · cases hent

theorem pair_rv {v : V} {y : Value} {b : Bool} (h : RV S g v y) : RV S g (.tup [v, .sc (.bool b)]) (.tuple #[y, .bool b]) := by
  refine .tup _ _ rfl fun j v x hv hx => ?_
  rcases j with _ | _ | j
  · simp at hv hx; subst hv; subst hx; exact h
  · simp at hv hx; subst hv; subst hx; exact .sc _ _ (.bool b)
  · simp at hv

theorem lookup_ok (hR : Rel S G g nt s a w) {ok : Bool} {ty : KT} {z : V} {m key : Rand} {t kt et : TypeId} {m' key' : Operand} {d : Nat} (h1 : MR S G m m') (h2 : MR S G key key')
    (hu : S.P.underlying t = some (.map kt et)) (hz : TZeroV S.P et z) (hf : flat S.P d kt = some ty) (hd : d ≤ 100)
    (e : eff base s.h (rd S.Γ s.t) (.lookup ok ty z m key) = some (v, ws)) : ws = [] ∧ Looks S g a w (.lookup t m' key' ok) v := by
  have hm := rd_rv hR h1
  have hk := rd_rv hR h2
  simp only [eff] at e
  split at e
  · cases e
  · rename_i ka va l hent
    split at e
    · cases e
    · rename_i hcond
      simp only [not_or, ne_eq, Decidable.not_not, Bool.not_eq_false] at hcond
      obtain ⟨hfit, rfl, hva⟩ := hcond
      obtain ⟨kr, klen⟩ := fits_kr hf hfit hk
      have main : ∀ r, find ty.tags (rd S.Γ s.t key).cells 0 l = some r → ∃ y b, (Instr.lookup t (a.eval m') (a.eval key') ok).run S.P w = .ok (if ok then .tuple #[y, .bool b] else y) w ∧
          (Told S g va z r y b ∨ (ok = false ∧ r = none ∧ KR S g va z.cells y)) := by
        intro r hr
        obtain ⟨es, L, r', hx, hE, hr', hrr⟩ := entries_find hR.hp hm hent hr
        obtain ⟨y, b, hrun, ht⟩ := lookup_run (w := w) (ok := ok) hu hz hf hd hx hE kr klen hr'
        refine ⟨y, b, hrun, ?_⟩
        rcases hrr with rfl | ⟨hok, rfl, n, rfl⟩
        · exact .inl ht
        · exact .inr ⟨hok, rfl, ht.2⟩
      split at e
      · rename_i n cs hr
        simp only [Option.map_eq_some_iff] at e
        obtain ⟨v', hv', e⟩ := e
        simp only [Prod.mk.injEq] at e
        obtain ⟨rfl, rfl⟩ := e
        obtain ⟨y, b, hrun, ⟨rfl, hkr⟩ | ⟨_, h, _⟩⟩ := main _ hr
        · refine ⟨rfl, fun o ho => ⟨_, by simp only [execOp, ho, Sem.run_bind, hrun]; rfl, ?_⟩⟩
          cases ok with
          | false => exact ofShape_rv hv' hkr
          | true => exact pair_rv (ofShape_rv hv' hkr)
        · cases h
      · rename_i hr
        simp only [Option.some.injEq, Prod.mk.injEq] at e
        obtain ⟨rfl, rfl⟩ := e
        obtain ⟨y, b, hrun, ⟨rfl, hkr⟩ | ⟨rfl, _, hkr⟩⟩ := main _ hr
        · refine ⟨rfl, fun o ho => ⟨_, by simp only [execOp, ho, Sem.run_bind, hrun]; rfl, ?_⟩⟩
          cases ok with
          | false => exact hkr
          | true => exact pair_rv (hkr)
        · refine ⟨rfl, fun o ho => ⟨_, by simp only [execOp, ho, Sem.run_bind, hrun]; rfl, ?_⟩⟩
          simp only [Bool.false_eq_true, if_false]
          obtain ⟨i, zv, _, _, hKV⟩ := hz
          cases hKV with
          | sc c x hc =>
            have hcc : V.cells (.sc c) = [c] := by cases hc <;> rfl
            have hv0 : va = false := by rw [← hva]; rfl
            subst hv0
            rw [hcc] at hkr
            exact .sc _ _ hkr.one_inv
          | agg cs vs hl =>
            have hv0 : va = true := by rw [← hva]; rfl
            subst hv0
            obtain ⟨vals, rfl, hl, hr'⟩ := hkr.agg_inv
            exact .agg _ _ hl hr'
          | undef =>
            obtain ⟨vs, _, hl, h1, _⟩ := hkr
            have hv0 : va = false := by rw [← hva]; rfl
            have := h1 hv0
            simp [V.cells] at this
      · cases e

end
end Go.Pm
