/- The plain machine, part 1. -/
import GoSem.Core.Code
import GoSem.Core.View
set_option linter.all false
set_option maxRecDepth 100000
namespace Go.Pm
inductive SK where
 | nil
 | full
 | shared
 deriving DecidableEq
inductive Fk where
 | fn (id:Nat)
 | yield (l:Nat)
 deriving DecidableEq
structure KT where
 agg:Bool
 tags:List Nat
inductive C where
 | int (k:IntKind) (n:Int)
 | bool (b:Bool)
 | str (s:ByteArray)
 | sl (k:SK) (es:Nat) (l:List (List C))
 | own (p:Bool) (es:Nat) (l:List (List C))
 | imap (ka va:Bool) (l:List (List C × List C))
 | iset (n:Nat) (f:List Int->Bool)
 | eptr (cs:List C) (off:Nat)
 | fn (f:Fk) (shape:List (Option Nat)) (first cap:List C)
 | nilf
 | nilp
 | nili
 | ptr (r off:Nat)
 | map (r:Nat)
 | msl (r off len cap es:Nat)
 | stamp (r i:Nat)
 | top
inductive V where
 | sc (c:C)
 | agg (cs:List C)
 | tup (vs:List V)
inductive Rand where
 | t (i:Nat)
 | tk (i:Nat)
 | pk (i:Nat)
 | k (v:V)
 | f (id:Nat)
 | g (id:Nat)
inductive Op where
 | mv (x:Rand)
 | pick (c a b:Rand)
 | alloc (a:Nat) (z:List C)
 | box (a:Nat) (x:Rand)
 | build (z:List C) (ps:List (Nat × Nat × Rand))
 | bslice (es n:Nat) (z:List C) (ps:List (Nat × Rand))
 | bmsl (a es n:Nat) (z:List C) (ps:List (Nat × Rand))
 | mkM (a es:Nat) (z:List C) (x:Rand)
 | load (n:Option Nat) (x:Rand)
 | loadT (x:Rand)
 | store (n:Nat) (x v:Rand)
 | bin (op:BinOp) (x y:Rand)
 | eqf (neg:Bool) (ty:KT) (x y:Rand)
 | isnil (kd:Nat) (neg:Bool) (x:Rand)
 | un (op:UnOp) (x:Rand)
 | conv (k:IntKind) (x:Rand)
 | mkf (id:Nat) (shape:List (Option Nat)) (first cap:List Rand)
 | mkmap (a:Nat) (ka va:Bool)
 | slice (es:Nat) (x:Rand) (lo hi mx:Option Rand)
 | slArr (n es:Nat) (x:Rand) (lo hi mx:Option Rand)
 | slStr (x:Rand) (lo hi:Option Rand)
 | faddr (off:Nat) (x:Rand)
 | field (off:Nat) (n:Option Nat) (x:Rand)
 | iaddr (es:Nat) (x i:Rand)
 | iarr (len es:Nat) (x i:Rand)
 | index (len es:Nat) (n:Option Nat) (x i:Rand)
 | istr (x i:Rand)
 | lookup (ok:Bool) (ty:KT) (z:V) (m key:Rand)
 | ment (ty:KT) (z:V) (m key:Rand)
 | estore (m s v:Rand)
 | mupd (ty:KT) (m key v:Rand)
 | mkset (a n:Nat)
 | kset (a n:Nat)
 | slook (n:Nat) (m key:Rand)
 | sadd (n:Nat) (m key:Rand)
 | rng (a:Nat) (x:Rand)
 | ext (x:Rand) (i:Nat)
 | len (k:Nat) (x:Rand)
 | lenArr (n:Nat)
 | min (x:Rand) (xs:List Rand)
 | max (x:Rand) (xs:List Rand)
 | append (es:Nat) (x y:Rand)
 | appendP (es:Nat) (x y:Rand)
 | appendM (a es:Nat) (x y:Rand)
 | copy (es:Nat) (x y:Rand)
 | clear (es:Nat) (z:List C) (x:Rand)
 | nilchk (x:Rand)
 | call (pure:Bool) (f:Rand) (args:List Rand)
 | late (o:Op)
structure Oper where
 ix:Nat:=0
 dst:Option Nat:=none
 op:Op
 guard:Option (Nat × Bool):=none
 conf:List Nat:=[]
abbrev I (ix d:Nat) (op:Op):Oper:=⟨ix,some d,op,none,[]⟩
abbrev J (ix:Nat) (op:Op):Oper:=⟨ix,none,op,none,[]⟩
abbrev M (ix d x:Nat):Oper:=⟨ix,some d,.mv (.t x),none,[]⟩
abbrev Y (ix d g:Nat) (op:Op):Oper:=⟨ix,some d,op,some (g,true),[]⟩
abbrev U (ix d g:Nat) (op:Op):Oper:=⟨ix,some d,op,some (g,false),[]⟩
abbrev kI (n:Int):Rand:=.k (.sc (.int .i64 n))
abbrev kB (b:Bool):Rand:=.k (.sc (.bool b))
abbrev oL (a:Nat):Op:=.load none (.t a)
abbrev oS (n a:Nat):Op:=.load (some n) (.t a)
abbrev oF (n a:Nat):Op:=.faddr n (.t a)
abbrev oI (n a b:Nat):Op:=.iaddr n (.t a) (.t b)
abbrev oN (n a:Nat):Op:=.len n (.t a)
abbrev oB (o:BinOp) (a b:Nat):Op:=.bin o (.t a) (.t b)
abbrev oK (o:BinOp) (a:Nat) (n:Int):Op:=.bin o (.t a) (kI n)
abbrev oE (a i:Nat):Op:=.ext (.t a) i
abbrev oU (o:UnOp) (a:Nat):Op:=.un o (.t a)
abbrev oM (a:Nat):Op:=.mv (.t a)
abbrev oO (a b:Nat):Op:=.pick (.t a) (kB true) (.t b)
abbrev oA (a b:Nat):Op:=.pick (.t a) (.t b) (kB false)
abbrev o1 (f a:Nat):Op:=.call true (.f f) [.t a]
abbrev o2 (f a b:Nat):Op:=.call true (.f f) [.t a,.t b]
abbrev o3 (f a b c:Nat):Op:=.call true (.f f) [.t a,.t b,.t c]
abbrev o4 (f a b c d:Nat):Op:=.call true (.f f) [.t a,.t b,.t c,.t d]
inductive AC where
 | skip
 | region (nal:Nat) (ops:List Oper) (draw:Bool) (keep:List Nat)
 | seq (a b:AC)
 | cond (c:Rand) (a b:AC)
 | block (id:Nat) (body:AC)
 | loop (keep:List Nat) (body:AC)
 | rfunc (f:Rand) (params:List Nat) (assign body:AC)
 | union (keep:List Nat) (it dst n:Nat)
 | stuck
 | exit (id:Nat)
 | scope (body:AC)
 | ret
 | frz (i:Nat) (body:AC)
 | frzc (i:Nat) (body:AC)
inductive Ex where
 | norm
 | exit (id:Nat)
 | ret
 deriving DecidableEq
inductive LS where
 | ready
 | busy
 | done
 deriving DecidableEq
inductive Obj where
 | dead
 | var (cs:List C)
 | free
 | map (ka va:Bool) (l:List (List C × List C)) (ph:Option (List C × List C))
 | set (n:Nat) (f:List Int->Bool)
 | iter (n:Nat) (f:List Int->Bool)
 | loop (st:LS) (pend:Option Ex) (t:List (Nat × V)) (ps:List Nat) (assign body:AC)
structure St where
 t:List (Nat × V)
 h:List Obj
structure Fn where
 np:Nat
 nt:Nat
 res:List (Nat × Option (Option Nat))
 body:AC
 opn:Bool
structure Env where
 fn:Nat->Option Fn
 prim:Nat->Option (List V->List Obj->Option (V × List Obj))
 glob:Nat->List C
/-! ### Small words -/
def a0r:C->C
 | .own false es l=>.sl .shared es l
 | .own true _ _=>.top
 | c=>c
def V.a0r:V->V
 | .sc c=>.sc (Pm.a0r c)
 | v=>v
def V.cells:V->List C
 | .sc .top=>[]
 | .sc (.own true _ _)=>[]
 | .sc c=>[c]
 | .agg cs=>cs
 | .tup _=>[]
def kindOf (l:List (List C)):SK:=match l with | []=>.nil|_::_=>.shared
def V.peek:V->V
 | .sc (.own true es l)=>.sc (.sl (kindOf l) es l)
 | v=>v.a0r
def V.flat:V->Bool
 | .sc (.int _ _) | .sc (.bool _)=>true
 | _=>false
def get:List (Nat × V)->Nat->V
 | [],_=>.sc .top
 | (j,v)::t,i=>if j=i then v else get t i
def a3i (t:List (Nat × V)):List (Nat × V):=t.map fun p=>(p.1,p.2.a0r)
def restrict (keep:List Nat) (t:List (Nat × V)):List (Nat × V):=keep.map fun i=>(i,get t i)
mutual
def C.under (n:Nat):C->Bool
 | .ptr r _=>decide (r<n)
 | .map r=>decide (r<n)
 | .msl r _ _ _ _=>decide (r<n)
 | .stamp r _=>decide (r<n)
 | .fn f _ first cap=>(match f with | .fn _=>true | .yield l=>decide (l<n))&&C.a0G n first&&C.a0G n cap
 | _=>true
def C.a0G (n:Nat):List C->Bool
 | []=>true
 | c::cs=>C.under n c&&C.a0G n cs
end
mutual
def V.under (n:Nat):V->Bool
 | .sc c=>c.under n
 | .agg cs=>C.a0G n cs
 | .tup vs=>V.a2I n vs
def V.a2I (n:Nat):List V->Bool
 | []=>true
 | v::vs=>V.under n v&&V.a2I n vs
end
def Obj.under (n:Nat):Obj->Bool
 | .var cs=>C.a0G n cs
 | .loop _ _ t _ _ _=>t.all fun p=>p.2.under n
 | _=>true
mutual
def C.pure:C->Bool
 | .ptr _ _ | .map _ | .msl _ _ _ _ _ | .stamp _ _ | .own _ _ _=>false
 | .fn f _ first cap=>(match f with | .fn _=>true | .yield _=>false)&&C.a0v first&&C.a0v cap
 | _=>true
def C.a0v:List C->Bool
 | []=>true
 | c::cs=>C.pure c&&C.a0v cs
end
def V.pure:V->Bool
 | .sc c=>c.pure
 | .agg cs=>C.a0v cs
 | .tup _=>false
def a0R (cs:List C) (off:Nat):Nat->Option (List C)
 | 0=>some []
 | n+1=>match cs[off]? with
  | some c=>(a0R cs (off+1) n).map (c::·)
  | none=>none
def a1H (cs:List C) (off:Nat):List C->List C
 | []=>cs
 | v::vs=>a1H (cs.set off v) (off+1) vs
def chunks (cs:List C) (off es:Nat):Nat->Option (List (List C))
 | 0=>some []
 | n+1=>match a0R cs off es with
  | some c=>(chunks cs (off+es) es n).map (c::·)
  | none=>none
def a1t (cs:List C) (off:Nat):Option Nat->Option V
 | none=>(cs[off]?).map fun c=>.sc (a0r c)
 | some n=>(a0R cs off n).map fun l=>.agg (l.map a0r)
def room:Nat:=2147483648
def a0d:C->C->Option Bool
 | .int k a,.int k' b=>if k=k' then some (a == b) else none
 | .bool a,.bool b=>some (a == b)
 | .str a,.str b=>some (decide (a=b))
 | _,_=>none
def a0b:List C->List C->Option Bool
 | [],[]=>some true
 | c::cs,d::ds=>match a0d c d,a0b cs ds with
  | some a,some b=>some (a&&b)
  | _,_=>none
 | _,_=>none
def a0g:Nat->C->C->Option Bool
 | 0,.bool a,.bool b=>some (a == b)
 | 1,.int k a,.int k' b=>if k=k' then some (a == b) else none
 | 2,.str a,.str b=>some (a == b)
 | _,_,_=>none
def a0c:List Nat->List C->List C->Option Bool
 | [],[],[]=>some true
 | t::ts,c::cs,d::ds=>match a0g t c d,a0c ts cs ds with
  | some a,some b=>some (a&&b)
  | _,_=>none
 | _,_,_=>none
def find (ts:List Nat) (key:List C):Nat->List (List C × List C)->Option (Option (Nat × List C))
 | _,[]=>some none
 | n,e::es=>match a0c ts key e.1 with
  | some true=>some (some (n,e.2))
  | some false=>find ts key (n+1) es
  | none=>none
def setAt (i:Nat) (v:List C) (l:List (List C × List C)):List (List C × List C) :=
 match l[i]? with
 | some e=>l.set i (e.1,v)
 | none=>l
def a7I (agg:Bool) (cs:List C):Option V :=
 if agg then some (.agg cs) else match cs with | [c]=>some (.sc c)|_=>none
def V.isAgg:V->Bool
 | .agg _=>true
 | _=>false
def a2F:List (Option Nat)->List C->Option (List V)
 | [],[]=>some []
 | none::sh,c::cs=>(a2F sh cs).map (.sc c::·)
 | some n::sh,cs=>if n<=cs.length then (a2F sh (cs.drop n)).map (.agg (cs.take n)::·) else none
 | _,_=>none
def a5l (k:IntKind) (r:BitVec k.bits):Int:=k.wrap r.toNat
def arith (op:BinOp) (k:IntKind) (x y:Int):Option C :=
 match op with
 | .add=>some (.int k (k.wrap (x+y)))
 | .sub=>some (.int k (k.wrap (x - y)))
 | .mul=>some (.int k (k.wrap (x*y)))
 | .quo=>if y=0 then none else some (.int k (k.wrap (x.tdiv y)))
 | .rem=>if y=0 then none else some (.int k (x.tmod y))
 | .and=>some (.int k (a5l k (BitVec.ofInt k.bits x &&& BitVec.ofInt k.bits y)))
 | .or=>some (.int k (a5l k (BitVec.ofInt k.bits x ||| BitVec.ofInt k.bits y)))
 | .xor=>some (.int k (a5l k (BitVec.ofInt k.bits x ^^^ BitVec.ofInt k.bits y)))
 | .andNot=>some (.int k (a5l k (BitVec.ofInt k.bits x &&& ~~~ BitVec.ofInt k.bits y)))
 | .eql=>some (.bool (x == y))
 | .neq=>some (.bool (x != y))
 | .lss=>some (.bool (decide (x<y)))
 | .leq=>some (.bool (decide (x<=y)))
 | .gtr=>some (.bool (decide (x > y)))
 | .geq=>some (.bool (decide (x ≥ y)))
 | _=>none
def shifted (op:BinOp) (k:IntKind) (x y:Int):Option C :=
 if y<0 then none else
 match op with
 | .shl=>some (.int k (k.wrap (x*2 ^ (Nat.min y.toNat k.bits))))
 | .shr=>some (.int k (x.fdiv (2 ^ (Nat.min y.toNat k.bits))))
 | _=>none
def c0r (op:BinOp) (x y:ByteArray):Option C :=
 match op with
 | .add=>if x.size+y.size<=room then some (.str (x++y)) else none
 | .eql=>some (.bool (x.toList == y.toList))
 | .neq=>some (.bool !(x.toList == y.toList))
 | _=>none
def bin (op:BinOp):V->V->Option C
 | .sc (.int k x),.sc (.int k' y) =>
  match op with
  | .shl | .shr=>shifted op k x y
  | _=>if k=k' then arith op k x y else none
 | .sc (.str x),.sc (.str y)=>c0r op x y
 | _,_=>none
def un (op:UnOp):V->Option C
 | .sc (.int k n)=>match op with | .neg=>some (.int k (k.wrap (0 - n)))|_=>none
 | .sc (.bool b)=>match op with | .not=>some (.bool !b)|_=>none
 | _=>none
def minOf (k:IntKind) (x:Int):List V->Option C
 | []=>some (.int k x)
 | .sc (.int _ y)::r=>minOf k (if y<x then y else x) r
 | _=>none
def maxOf (k:IntKind) (x:Int):List V->Option C
 | []=>some (.int k x)
 | .sc (.int _ y)::r=>maxOf k (if y > x then y else x) r
 | _=>none
def elems (es:Nat):V->Option (List (List C))
 | .sc (.sl _ es' l)=>if es'=es then some l else none
 | .sc (.own _ es' l)=>if es'=es then some l else none
 | _=>none
def appended (es:Nat) (x y:V):Option C :=
 match elems es y with
 | none=>none
 | some m =>
  match x with
  | .sc (.sl k es' l) =>
   if es'=es/\k≠.shared/\l.length+m.length<=room then
    some (match m with | []=>.sl k es l|_::_=>.own false es (l++m))
   else none
  | .sc (.own p es' l)=>if es'=es/\l.length+m.length<=room then some (.own p es (l++m)) else none
  | _=>none
def f1F (es:Nat) (x y:V):Option C :=
 match x with
 | .sc (.sl k es' l)=>match elems es y with
  | some (m0::ms)=>if es'=es/\k≠.shared/\l.length+(m0::ms).length<=room then some (.own true es (l++m0::ms)) else none
  | _=>none
 | x=>appended es x y
def bound (v:V) (top:Nat):Option Nat :=
 match v with
 | .sc (.int _ n)=>if 0<=n/\n<=top then some n.toNat else none
 | _=>none
def a9O (len:Nat) (cap:Option Nat):Option V->Option (Option Nat)
 | some v=>(bound v (cap.getD len)).map some
 | none=>some cap
def b4b (len:Nat) (m:Option Nat):Option V->Option Nat
 | some v=>bound v (m.getD len)
 | none=>some len
def b4c (h:Nat):Option V->Option Nat
 | some v=>bound v h
 | none=>some 0
def bounds (len:Nat) (cap:Option Nat) (lo hi mx:Option V):Option (Nat × Nat × Option Nat) :=
 if mx.isSome&&hi.isNone then none else
 match a9O len cap mx with
 | none=>none
 | some m=>match b4b len m hi with
  | none=>none
  | some h=>match b4c h lo with
   | none=>none
   | some l=>if h<=len then some (l,h,m) else none
def a7p (k:SK) (ends:Bool):SK :=
 match k with
 | .nil=>.nil
 | _=>if ends then .full else .shared
def capOf (k:SK) (n:Nat):Option Nat :=
 match k with
 | .shared=>none
 | _=>some n
def sliced (es:Nat) (x:V) (lo hi mx:Option V):Option C :=
 match x with
 | .sc (.sl k es' l) =>
  if es'≠es then none else
  match bounds l.length (capOf k l.length) lo hi mx with
  | some (a,b,m)=>some (.sl (a7p k (decide (m=some b))) es ((l.take b).drop a))
  | none=>none
 | .sc (.own _ es' l) =>
  if es'≠es then none else
  match bounds l.length none lo hi mx with
  | some (a,b,m)=>some (.sl (if m=some b then .full else .shared) es ((l.take b).drop a))
  | none=>none
 | .sc (.msl r off len cap es') =>
  if es'≠es then none else
  match bounds len (if cap=0 then none else some cap) lo hi mx with
  | some (a,b,some m)=>some (.msl r (if m=a then off else off+a*es) (b - a) (m - a) es)
  | some (a,b,none)=>if a<len\/a=0 then some (.msl r (off+a*es) (b - a) 0 es) else none
  | none=>none
 | _=>none
def a8k (n es:Nat) (x:V) (lo hi mx:Option V):Option C :=
 match x with
 | .sc (.ptr r off)=>match bounds n (some n) lo hi mx with
  | some (a,b,m)=>some (.msl r (if m.getD n=a then off else off+a*es) (b - a) (m.getD n - a) es)
  | none=>none
 | _=>none
def b3x (x:V) (lo hi:Option V):Option C :=
 match x with
 | .sc (.str s)=>match bounds s.size (some s.size) lo hi none with
  | some (a,b,_)=>some (.str (s.extract a b))
  | none=>none
 | _=>none
def nth (l:List (List C)) (i:V):Option (List C) :=
 match i with
 | .sc (.int _ n)=>if 0<=n then l[n.toNat]? else none
 | _=>none
def place (len:Nat) (i:V):Option Nat :=
 match i with
 | .sc (.int _ n)=>if 0<=n/\n<len then some n.toNat else none
 | _=>none
def a3a (z:List C):List (Nat × Nat × V)->Option (List C)
 | []=>some z
 | (off,n,v)::r=>if v.cells.length=n/\0<n/\off+n<=z.length then a3a (a1H z off v.cells) r else none
def a2c (es:Nat) (l:List (List C)):List (Nat × V)->Option (List (List C))
 | []=>some l
 | (i,v)::r=>if v.cells.length=es/\i<l.length then a2c es (l.set i v.cells) r else none
/-! ### What an operation does -/
abbrev Eff:=V × List (Nat × Obj)
def rd (Γ:Env) (t:List (Nat × V)):Rand->V
 | .t i=>(get t i).a0r
 | .tk i=>get t i
 | .pk i=>(get t i).peek
 | .k v=>v
 | .f id=>.sc (.fn (.fn id) [] [] [])
 | .g id=>.sc (.eptr (Γ.glob id) 0)
def a1z (h:List Obj) (r:Nat):Bool :=
 match h[r]? with
 | some .free=>true
 | _=>false
def shapes:List V->Option (List (Option Nat))
 | []=>some []
 | .sc .top::_=>none
 | .sc _::vs=>(shapes vs).map (none::·)
 | .agg cs::vs=>(shapes vs).map (some cs.length::·)
 | .tup _::_=>none
def proper (agg:Bool) (v:V):Bool:=v.isAgg == agg&&(agg||v.cells.length == 1)
def fits (ty:KT) (v:V):Bool:=v.isAgg == ty.agg&&v.cells.length == ty.tags.length
def entries (h:List Obj) (ok:Bool) (ty:KT) (z key m:V):Option (Bool × Bool × List (List C × List C)) :=
 match m with
 | .sc (.map p)=>match h[p]? with
  | some (.map ka va l none)=>some (ka,va,l)
  | some (.map ka va l (some (k,y)))=>if ok then none else match a0c ty.tags key.cells k with
   | some false=>some (ka,va,l)
   | some true=>if a0b z.cells y=some true then some (ka,va,l) else none
   | none=>none
  | _=>none
 | .sc (.imap ka va l)=>some (ka,va,l)
 | _=>none
def intsOf:List C->Option (List Int)
 | []=>some []
 | .int .i64 n::cs=>(intsOf cs).map (n::·)
 | _=>none
def a6a (n:Nat):V->Option (List Int)
 | .agg cs=>if cs.length=n then intsOf cs else none
 | _=>none
def setOf (h:List Obj):V->Option (Nat × (List Int->Bool))
 | .sc (.iset n f)=>some (n,f)
 | .sc (.map p)=>match h[p]? with
  | some (.set n f)=>some (n,f)
  | _=>none
 | _=>none
def one (c:Option C):Option Eff:=c.map fun c=>(.sc c,[])
def eff (base:Nat) (h:List Obj) (r:Rand->V):Op->Option Eff
 | .mv x=>some (r x,[])
 | .pick c a b=>match r c with
  | .sc (.bool true)=>some (r a,[])
  | .sc (.bool false)=>some (r b,[])
  | _=>none
 | .alloc a z=>if a1z h (base+a)/\C.a0v z then some (.sc (.ptr (base+a) 0),[(base+a,.var z)]) else none
 | .box a x=>if a1z h (base+a) then some (.sc (.ptr (base+a) 0),[(base+a,.var (r x).cells)]) else none
 | .build z ps=>(a3a z (ps.map fun p=>(p.1,p.2.1,r p.2.2))).map fun cs=>(.agg cs,[])
 | .bslice es n z ps=>match a2c es (List.replicate n z) (ps.map fun p=>(p.1,r p.2)) with
  | some l=>if z.length=es/\l.all C.a0v then some (.sc (.sl .full es l),[]) else none
  | none=>none
 | .mkM a es z x=>match r x with
  | .sc (.int .i64 n)=>if (0<=n/\n<=4096)/\z.length=es/\a1z h (base+a) then some (.sc (.msl (base+a) 0 n.toNat n.toNat es),[(base+a,.var (List.replicate n.toNat z).flatten)]) else none
  | _=>none
 | .bmsl a es n z ps=>match a2c es (List.replicate n z) (ps.map fun p=>(p.1,r p.2)) with
  | some l=>if z.length=es/\a1z h (base+a) then some (.sc (.msl (base+a) 0 n n es),[(base+a,.var l.flatten)]) else none
  | none=>none
 | .load n x=>match r x with
  | .sc (.ptr p off)=>match h[p]? with
   | some (.var cs)=>(a1t cs off n).map fun v=>(v,[])
   | _=>none
  | .sc (.eptr cs off)=>(a1t cs off n).map fun v=>(v,[])
  | _=>none
 | .loadT x=>match r x with
  | .sc (.ptr p off)=>match h[p]? with
   | some (.var cs)=>match cs[off]? with
    | some c=>some (.sc c,[(p,.var (cs.set off (a0r c)))])
    | none=>none
   | _=>none
  | _=>none
 | .store n x v=>match r x with
  | .sc (.ptr p off)=>match h[p]? with
   | some (.var cs) =>
    if (r v).cells.length=n/\0<n/\off+n<=cs.length then some (.tup [],[(p,.var (a1H cs off (r v).cells))]) else none
   | _=>none
  | _=>none
 | .bin op x y=>one (bin op (r x) (r y))
 | .eqf neg ty x y=>if (r x).isAgg=ty.agg/\(r y).isAgg=ty.agg then (a0c ty.tags (r x).cells (r y).cells).map fun b=>(.sc (.bool (neg ^^ b)),[]) else none
 | .isnil kd neg x=>match kd,r x with
  | 0,.sc (.sl k _ _)=>some (.sc (.bool (neg ^^ decide (k=.nil))),[])
  | 1,.sc .nilf=>some (.sc (.bool (!neg)),[])
  | 1,.sc (.fn _ _ _ _)=>some (.sc (.bool neg),[])
  | 2,.sc .nilp=>some (.sc (.bool (!neg)),[])
  | 2,.sc (.ptr _ _)=>some (.sc (.bool neg),[])
  | 2,.sc (.eptr _ _)=>some (.sc (.bool neg),[])
  | _,_=>none
 | .un op x=>one (un op (r x))
 | .conv k x=>match r x with
  | .sc (.int _ n)=>some (.sc (.int k (k.wrap n)),[])
  | _=>none
 | .mkf id sh first cap =>
  if shapes (first.map r)=some sh/\shapes (cap.map r)=some (cap.map fun _=>none) then
   some (.sc (.fn (.fn id) sh ((first.map r).flatMap V.cells) ((cap.map r).flatMap V.cells)),[])
  else none
 | .mkmap a ka va=>if a1z h (base+a) then some (.sc (.map (base+a)),[(base+a,.map ka va [] none)]) else none
 | .slice es x lo hi mx=>one (sliced es (r x) (lo.map r) (hi.map r) (mx.map r))
 | .slArr n es x lo hi mx=>one (a8k n es (r x) (lo.map r) (hi.map r) (mx.map r))
 | .slStr x lo hi=>one (b3x (r x) (lo.map r) (hi.map r))
 | .faddr off x=>match r x with
  | .sc (.ptr p o)=>some (.sc (.ptr p (o+off)),[])
  | .sc (.eptr cs o)=>some (.sc (.eptr cs (o+off)),[])
  | _=>none
 | .field off n x=>match r x with
  | .agg cs=>(a1t cs off n).map fun v=>(v,[])
  | _=>none
 | .iaddr es x i=>match r x with
  | .sc (.msl p off len _ es')=>if es'≠es then none else (place len (r i)).map fun j=>(.sc (.ptr p (off+j*es)),[])
  | x=>match elems es x with
   | some l=>(nth l (r i)).map fun e=>(.sc (.eptr e 0),[])
   | none=>none
 | .iarr len es x i=>match r x,place len (r i) with
  | .sc (.ptr p o),some j=>some (.sc (.ptr p (o+j*es)),[])
  | .sc (.eptr cs o),some j=>some (.sc (.eptr cs (o+j*es)),[])
  | _,_=>none
 | .index len es n x i=>match r x,place len (r i) with
  | .agg cs,some j=>(a1t cs (j*es) n).map fun v=>(v,[])
  | _,_=>none
 | .istr x i=>match r x with
  | .sc (.str s)=>match place s.size (r i) with
   | some j=>(s[j]?).map fun b=>(.sc (.int .u8 b.toNat),[])
   | none=>none
  | _=>none
 | .lookup ok ty z m key=>match entries h ok ty z (r key) (r m) with
  | none=>none
  | some (ka,va,l)=>if fits ty (r key)=false\/ka≠ty.agg\/z.isAgg≠va then none else match find ty.tags (r key).cells 0 l with
   | some (some (_,cs))=>(a7I va cs).map fun v=>(if ok then .tup [v,.sc (.bool true)] else v,[])
   | some none=>some (if ok then .tup [z,.sc (.bool false)] else z,[])
   | none=>none
 | .ment ty z m key=>match r m with
  | .sc (.map p)=>match h[p]? with
   | some (.map ka va l none)=>if fits ty (r key)=false\/ka≠ty.agg\/proper va z=false then none else match find ty.tags (r key).cells 0 l with
    | some (some (i,_))=>some (.tup [.sc .top,.sc (.stamp p i)],[])
    | some none=>if C.a0v (r key).cells/\C.a0v z.cells then some (.tup [.sc .top,.sc (.stamp p l.length)],[(p,.map ka va l (some ((r key).cells,z.cells)))]) else none
    | none=>none
   | _=>none
  | _=>none
 | .estore m s v=>match r m,r s with
  | .sc (.map p),.sc (.stamp q i)=>if p≠q then none else match h[p]? with
   | some (.map ka va l ph)=>if C.a0v (r v).cells/\proper va (r v) then
    match ph with
    | none=>if i<l.length then some (.tup [],[(p,.map ka va (setAt i (r v).cells l) none)]) else none
    | some (k,_)=>if i=l.length then some (.tup [],[(p,.map ka va (l++[(k,(r v).cells)]) none)]) else none
    else none
   | _=>none
  | _,_=>none
 | .mupd ty m key v=>match r m with
  | .sc (.map p)=>match h[p]? with
   | some (.map ka va l none)=>if C.a0v (r key).cells/\C.a0v (r v).cells/\proper va (r v)/\fits ty (r key)/\ka=ty.agg then
    match find ty.tags (r key).cells 0 l with
    | some (some (i,_))=>some (.tup [],[(p,.map ka va (setAt i (r v).cells l) none)])
    | some none=>some (.tup [],[(p,.map ka va (l++[((r key).cells,(r v).cells)]) none)])
    | none=>none
    else none
   | _=>none
  | _=>none
 | .mkset a n=>if a1z h (base+a) then some (.sc (.map (base+a)),[(base+a,.set n fun _=>false)]) else none
 | .kset a n=>if a1z h (base+a) then some (.sc (.iset n fun _=>false),[(base+a,.dead)]) else none
 | .slook n m key=>match setOf h (r m),a6a n (r key) with
  | some (n',f),some ks=>if n'=n then some (.sc (.bool (f ks)),[]) else none
  | _,_=>none
 | .sadd n m key=>match r m,a6a n (r key) with
  | .sc (.map p),some ks=>match h[p]? with
   | some (.set n' f)=>if n'=n then some (.tup [],[(p,.set n fun x=>f x||decide (x=ks))]) else none
   | _=>none
  | _,_=>none
 | .rng a x=>match r x with
  | .sc (.iset n f)=>if a1z h (base+a) then some (.sc (.ptr (base+a) 0),[(base+a,.iter n f)]) else none
  | _=>none
 | .ext x i=>match r x with
  | .tup vs=>match vs[i]? with
   | some v=>some (v,[])
   | none=>none
  | _=>none
 | .len k x=>match k,r x with
  | 1,.sc (.sl _ _ l)=>some (.sc (.int .i64 l.length),[])
  | 1,.sc (.msl _ _ n _ _)=>some (.sc (.int .i64 n),[])
  | 0,.sc (.str s)=>some (.sc (.int .i64 s.size),[])
  | 2,.sc (.imap _ _ l)=>some (.sc (.int .i64 l.length),[])
  | 2,.sc (.map p)=>match h[p]? with
   | some (.map _ _ l none)=>some (.sc (.int .i64 l.length),[])
   | _=>none
  | _,_=>none
 | .lenArr n=>some (.sc (.int .i64 n),[])
 | .min x xs=>match r x with
  | .sc (.int k n)=>one (minOf k n (xs.map r))
  | _=>none
 | .max x xs=>match r x with
  | .sc (.int k n)=>one (maxOf k n (xs.map r))
  | _=>none
 | .append es x y=>one (appended es (r x) (r y))
 | .appendP es x y=>one (f1F es (r x) (r y))
 | .appendM a es x y=>match elems es (r y) with
  | none=>none
  | some m=>match r x with
   | .sc (.sl k es' l)=>if es'=es then (match m with
    | []=>some (.sc (.sl k es l),[])
    | _::_=>if a1z h (base+a)/\k≠.shared/\l.length+m.length<=room then some (.sc (.msl (base+a) 0 (l.length+m.length) 0 es),[(base+a,.var (l++m).flatten)]) else none) else none
   | _=>none
 | .copy es x y=>match r x,elems es (r y) with
  | .sc (.msl p off n _ es'),some l=>if es'≠es then none else match h[p]? with
   | some (.var cs)=>if off+n*es<=cs.length then some (.sc (.int .i64 (min l.length n:Nat)),[(p,.var (a1H cs off (l.take n).flatten))]) else none
   | _=>none
  | _,_=>none
 | .clear es z x=>match r x with
  | .sc (.msl p off n _ es')=>if es'≠es\/z.length≠es then none else match h[p]? with
   | some (.var cs)=>if off+n*es<=cs.length then some (.tup [],[(p,.var (a1H cs off (List.replicate n z).flatten))]) else none
   | _=>none
  | _=>none
 | .nilchk x=>match r x with
  | .sc (.ptr p o)=>some (.sc (.ptr p o),[])
  | .sc (.eptr cs o)=>some (.sc (.eptr cs o),[])
  | .sc (.fn f sh a b)=>some (.sc (.fn f sh a b),[])
  | _=>none
 | .call _ _ _=>none
 | .late _=>none
/-! ### Which objects an operation looks at, and whether it writes -/
structure Acc where
 refs:List Nat:=[]
 w:Bool:=false
 all:Bool:=false
 kind:Nat:=0
 ty:List Nat:=[]
 key:List C:=[]
 z:List C:=[]
def refsOf:V->List Nat
 | .sc (.ptr p _)=>[p]
 | .sc (.map p)=>[p]
 | .sc (.msl p _ _ _ _)=>[p]
 | _=>[]
def a0h:V->List Nat
 | .sc (.ptr _ off)=>[off]
 | _=>[]
def acc (base:Nat) (r:Rand->V):Op->Acc
 | .alloc a _=>{ refs:=[base+a],w:=true }
 | .box a _=>{ refs:=[base+a],w:=true }
 | .bmsl a _ _ _ _=>{ refs:=[base+a],w:=true }
 | .mkM a _ _ _=>{ refs:=[base+a],w:=true }
 | .mkmap a _ _=>{ refs:=[base+a],w:=true }
 | .appendM a _ _ _=>{ refs:=[base+a],w:=true }
 | .load _ x=>{ refs:=refsOf (r x) }
 | .loadT x=>{ refs:=refsOf (r x),w:=true,kind:=3,ty:=a0h (r x) }
 | .store _ x _=>{ refs:=refsOf (r x),w:=true }
 | .lookup ok ty z m key=>{ refs:=refsOf (r m),kind:=if ok then 0 else 1,ty:=ty.tags,key:=(r key).cells,z:=z.cells }
 | .ment ty z m key=>{ refs:=refsOf (r m),w:=true,kind:=2,ty:=ty.tags,key:=(r key).cells,z:=z.cells }
 | .estore m _ _=>{ refs:=refsOf (r m),w:=true }
 | .mupd _ m _ _=>{ refs:=refsOf (r m),w:=true }
 | .mkset a _=>{ refs:=[base+a],w:=true }
 | .kset a _=>{ refs:=[base+a],w:=true }
 | .rng a _=>{ refs:=[base+a],w:=true }
 | .slook _ m _=>{ refs:=refsOf (r m) }
 | .sadd _ m _=>{ refs:=refsOf (r m),w:=true }
 | .copy _ x _=>{ refs:=refsOf (r x),w:=true }
 | .clear _ _ x=>{ refs:=refsOf (r x),w:=true }
 | .len k x=>if k=2 then { refs:=refsOf (r x) } else {}
 | .call p _ _=>if p then {} else { w:=true,all:=true }
 | .late _=>{ w:=true,all:=true }
 | _=>{}
def Acc.free (a b:Acc):Bool :=
 (!a.w&&!b.w)||(a.kind == 1&&b.kind == 2&&a.ty == b.ty&&(a0c a.ty a.key b.key).isSome&&a0b a.z b.z == some true) ||
 (a.kind == 2&&b.kind == 1&&a.ty == b.ty&&(a0c a.ty b.key a.key).isSome&&a0b b.z a.z == some true) ||
 (a.kind == 3&&b.kind == 3&&decide (a.ty≠b.ty)) ||
 (!a.all&&!b.all&&a.refs.all fun x=>b.refs.all fun y=>decide (x≠y))||(!a.all&&a.refs.isEmpty&&!a.w)||(!b.all&&b.refs.isEmpty&&!b.w)
def Rand.takes:Rand->List Nat
 | .tk i=>[i]
 | _=>[]
def Op.takes:Op->List Nat
 | .mv x=>x.takes
 | .store _ x v=>x.takes++v.takes
 | .append _ x y=>x.takes++y.takes
 | .appendP _ x y=>x.takes++y.takes
 | .box _ x=>x.takes
 | _=>[]
def drop (l:List Nat) (t:List (Nat × V)):List (Nat × V):=l.foldl (fun t i=>(i,(get t i).a0r)::t) t
def a0I (h:List Obj) (ws:List (Nat × Obj)):List Obj:=ws.foldl (fun h p=>h.set p.1 p.2) h
def put1 (dst:Option Nat) (v:V) (t:List (Nat × V)):List (Nat × V) :=
 match dst with
 | some d=>(d,v)::t
 | none=>t
/-! ### Steps, over given answers of calls and of code -/
def target:V->List V->Option (Fk × List V)
 | .sc (.fn (.fn id) sh first cap),args=>(a2F sh first).map fun fs=>(.fn id,fs++args++cap.map .sc)
 | .sc (.fn (.yield l) _ _ _),args=>some (.yield l,args)
 | _,_=>none
abbrev a1n:=Fk->List V->List Obj->Option (V × List Obj)
abbrev a3Z:=AC->St->Option (Ex × St)
def alone (h:List Obj) (p:V × List Obj):Option (V × List Obj) :=
 match p.2 with
 | []=>some (p.1,h)
 | _::_=>none
def Rand.e6Y:Rand->Bool
 | .pk _=>true
 | _=>false
def shut (args:List Rand) (p:V × List Obj):Option (V × List Obj):=if args.any Rand.e6Y&&!p.1.flat then none else some p
def calls (K:a1n) (r:Rand->V) (h:List Obj) (pure:Bool) (f:Rand) (args:List Rand):Option (V × List Obj) :=
 match target (r f) (args.map r) with
 | none=>none
 | some (fk,vs) =>
  if pure then
   (if vs.all V.pure then ((K fk vs []).bind (alone h)).bind (shut args) else none)
  else K fk vs h
def perform (K:a1n) (base:Nat) (h:List Obj) (r:Rand->V) (o:Op):Option (V × List Obj) :=
 match o with
 | .call pure f args=>calls K r h pure f args
 | .late o=>if o.takes=[] then (eff h.length (h++[.free]) r o).map fun p=>(p.1,a0I (h++[.free]) p.2) else none
 | o=>(eff base h r o).map fun p=>(p.1,a0I h p.2)
def wanted (o:Oper) (t:List (Nat × V)):Option Bool :=
 match o.guard with
 | none=>some true
 | some (g,w)=>match get t g with
  | .sc (.bool b)=>some (b == w)
  | .tup []=>some false
  | _=>none
def step (Γ:Env) (K:a1n) (base:Nat) (o:Oper) (s:St):Option St :=
 match wanted o s.t with
 | none=>none
 | some false=>some { s with t:=put1 o.dst (.tup []) s.t }
 | some true=>match perform K base s.h (rd Γ s.t) o.op with
  | none=>none
  | some (v,h)=>some { t:=put1 o.dst v (drop o.op.takes s.t),h:=h }
def stepT (Γ:Env) (K:a1n) (base:Nat) (o:Oper) (st:St × List (Nat × Acc)):Option (St × List (Nat × Acc)) :=
 match wanted o st.1.t with
 | none=>none
 | some false=>(step Γ K base o st.1).map fun s=>(s,st.2)
 | some true =>
  let a:=acc base (rd Γ st.1.t) o.op
  if o.conf.all fun j=>st.2.all fun p=>decide (p.1≠j)||Acc.free p.2 a then (step Γ K base o st.1).map fun s=>(s,(o.ix,a)::st.2) else none
def steps (Γ:Env) (K:a1n) (base:Nat):List Oper->St->Option St
 | [],s=>some s
 | o::os,s=>match step Γ K base o s with
  | none=>none
  | some s=>steps Γ K base os s
def a3c (Γ:Env) (K:a1n) (base:Nat):List Oper->St × List (Nat × Acc)->Option (St × List (Nat × Acc))
 | [],s=>some s
 | o::os,s=>match stepT Γ K base o s with
  | none=>none
  | some s=>a3c Γ K base os s
def region (Γ:Env) (K:a1n) (nal:Nat) (ops:List Oper) (draw:Bool) (keep:List Nat) (s:St):Option (Ex × St) :=
 let s0:St:={ s with h:=s.h++List.replicate nal .free }
 (match draw with
  | false=>steps Γ K s.h.length ops s0
  | true=>(a3c Γ K s.h.length ops (s0,[])).map Prod.fst).map fun (s:St)=>(Ex.norm,({ s with t:=restrict keep s.t }:St))
def trim (keep:List Nat) (n:Nat) (s:St):Option St :=
 let t:=restrict keep s.t
 if t.all (fun p=>p.2.under n)/\(s.h.take n).all (Obj.under n) then some { t:=t,h:=s.h.take n } else none
def frozen (i:Nat) (s:St):Option St :=
 match get s.t i with
 | .sc (.ptr r off)=>match s.h[r]? with
  | some (.var cs)=>if C.a0v (cs.map a0r) then some { t:=(i,.sc (.eptr (cs.map a0r) off))::s.t,h:=s.h.set r .dead } else none
  | _=>none
 | .sc (.sl .nil es [])=>some { s with t:=(i,.sc (.own true es []))::s.t }
 | .sc (.own true es [])=>some { s with t:=(i,.sc (.sl .nil es []))::s.t }
 | .sc (.own true es (e::l))=>some { t:=(i,.sc (.msl s.h.length 0 (l.length+1) 0 es))::s.t,h:=s.h++[.var (e::l).flatten] }
 | _=>none
mutual
def a3p:Nat->C->List Obj->Option (C × List Obj)
 | 0,_,_=>none
 | n+1,c,h=>match c with
  | .map p=>match h[p]? with
   | some (.map ka va l none)=>some (.imap ka va l,h.set p .dead)
   | some (.set n f)=>some (.iset n f,h.set p .dead)
   | _=>none
  | .msl r off len cap es=>match h[r]? with
   | some (.var cs)=>match a2Z n (cs.map a0r) h with
    | some (cs,h)=>match h[r]? with
     | some (.var _)=>if C.a0v cs then (chunks cs off es len).map fun l=>(.sl (if cap=len/\cap≠0 then .full else .shared) es l,h.set r .dead) else none
     | _=>none
    | none=>none
   | _=>none
  | c=>some (c,h)
def a2Z:Nat->List C->List Obj->Option (List C × List Obj)
 | 0,_,_=>none
 | _,[],h=>some ([],h)
 | n+1,c::cs,h=>match a3p n c h with
  | some (c,h)=>match a2Z n cs h with
   | some (cs,h)=>some (c::cs,h)
   | none=>none
  | none=>none
end
def a3G (i:Nat) (s:St):Option St :=
 match get s.t i with
 | .sc (.ptr r _)=>match s.h[r]? with
  | some (.var cs)=>match a2Z 400 cs s.h with
   | some (cs,h)=>match h[r]? with
    | some (.var _)=>some { s with h:=h.set r (.var cs) }
    | _=>none
   | none=>none
  | _=>none
 | .sc (.msl r off len cap es)=>match a3p 400 (.msl r off len cap es) s.h with
  | some (c,h)=>some { t:=(i,.sc c)::s.t,h:=h }
  | none=>none
 | .sc (.sl _ _ _)=>some s
 | _=>none
def a0U (Γ:Env) (X:a3Z) (K:a1n):AC->St->Option (Ex × St)
 | .skip,s=>some (.norm,s)
 | .region nal ops draw keep,s=>region Γ K nal ops draw keep s
 | .seq a b,s=>match X a s with
  | some (.norm,s)=>X b s
  | r=>r
 | .cond c a b,s=>match rd Γ s.t c with
  | .sc (.bool true)=>X a s
  | .sc (.bool false)=>X b s
  | _=>none
 | .block id body,s=>match X body s with
  | some (.exit id',s)=>if id'=id then some (.norm,s) else some (.exit id',s)
  | r=>r
 | .loop keep body,s=>match X body s with
  | some (.norm,s')=>match trim keep s.h.length s' with
   | some s'=>X (.loop keep body) s'
   | none=>none
  | r=>r
 | .rfunc f ps assign body,s =>
  let l:=s.h.length
  match target (rd Γ s.t f) [.sc (.fn (.yield l) [] [] [])] with
  | some (.fn id,vs) =>
   match K (.fn id) vs (s.h++[.loop .ready none (a3i s.t) ps assign body]) with
   | none=>none
   | some (_,h)=>match h[l]? with
    | some (.loop st pend _ _ _ _)=>if st=.busy then none else if (h.take l).all (Obj.under l) then some (pend.getD .norm,{ s with h:=h.take l }) else none
    | _=>none
  | _=>none
 | .union keep it dst n,s=>match get s.t it,get s.t dst with
  | .sc (.ptr p 0),.sc (.map q)=>match s.h[p]?,s.h[q]? with
   | some (.iter n1 f),some (.set n2 f0)=>if n1=n/\n2=n then some (.norm,{ t:=restrict keep s.t,h:=(s.h.set p .dead).set q (.set n fun x=>f0 x||f x) }) else none
   | _,_=>none
  | _,_=>none
 | .stuck,_=>none
 | .exit id,s=>some (.exit id,s)
 | .scope body,s=>X body s
 | .ret,s=>some (.ret,s)
 | .frz i body,s=>match frozen i s with
  | some s=>X body s
  | none=>none
 | .frzc i body,s=>match a3G i s with
  | some s=>X body s
  | none=>none
/-! ### The end of a call: what it hands back names nothing that it made -/
mutual
def frz (b:Nat) (h:List Obj):Nat->C->Option C
 | 0,_=>none
 | n+1,c=>match c with
  | .own false es l=>some (.sl .shared es l)
  | .own true _ _=>none
  | .ptr r off=>if r<b then some c else match h[r]? with
   | some (.var cs)=>match frzL b h n cs with
    | some cs=>if C.a0v cs then some (.eptr cs off) else none
    | none=>none
   | _=>none
  | .map r=>if r<b then some c else match h[r]? with
   | some (.map ka va l none)=>some (.imap ka va l)
   | some (.set n f)=>some (.iset n f)
   | _=>none
  | .msl r off len cap es=>if r<b then some c else match h[r]? with
   | some (.var cs)=>match frzL b h n cs with
    | some cs=>if C.a0v cs then (chunks cs off es len).map fun l=>.sl (if cap=len/\cap≠0 then .full else .shared) es l else none
    | none=>none
   | _=>none
  | .fn f sh first cap=>match f with
   | .yield l=>if l<b then some c else none
   | .fn _=>match frzL b h n first,frzL b h n cap with
    | some a,some d=>some (.fn f sh a d)
    | _,_=>none
  | .stamp _ _=>none
  | c=>some c
def frzL (b:Nat) (h:List Obj):Nat->List C->Option (List C)
 | 0,_=>none
 | _,[]=>some []
 | n+1,c::cs=>match frz b h n c,frzL b h n cs with
  | some c,some cs=>some (c::cs)
  | _,_=>none
end
def frzV (b:Nat) (h:List Obj):V->Option V
 | .sc c=>(frz b h 64 c).map .sc
 | .agg cs=>(frzL b h 128 cs).map .agg
 | .tup _=>none
def a4X (b:Nat) (h:List Obj):List V->Option (List V)
 | []=>some []
 | v::vs=>match frzV b h v,a4X b h vs with
  | some v,some vs=>some (v::vs)
  | _,_=>none
def a7K (s:St) (p:Nat × Option (Option Nat)):Option V :=
 match p.2 with
 | none=>some (get s.t p.1).a0r
 | some n=>match get s.t p.1 with
  | .sc (.ptr r off)=>match s.h[r]? with
   | some (.var cs)=>a1t cs off n
   | _=>none
  | _=>none
def results (s:St):List (Nat × Option (Option Nat))->Option (List V)
 | []=>some []
 | p::ps=>match a7K s p,results s ps with
  | some v,some vs=>some (v::vs)
  | _,_=>none
def tuple:List V->V
 | [v]=>v
 | vs=>.tup vs
def number (n:Nat):List V->List (Nat × V)
 | []=>[]
 | v::vs=>(n,v)::number (n+1) vs
def a2D:List Nat->List V->List (Nat × V)->List (Nat × V)
 | p::ps,v::vs,t=>a2D ps vs ((p,v)::t)
 | _,_,t=>t
def a3D (Γ:Env) (X:a3Z):a1n
 | .fn id,vs,h=>match Γ.fn id with
  | some f =>
   if vs.length≠f.np then none else
   match X f.body { t:=number 0 vs,h:=h } with
   | some (e,s)=>match e with
    | .exit _=>none
    | _=>match results s f.res with
     | some rs=>if f.opn then some (tuple rs,s.h) else match a4X h.length s.h rs with
      | some rs=>if (s.h.take h.length).all (Obj.under h.length) then some (tuple rs,s.h.take h.length) else none
      | none=>none
     | none=>none
   | none=>none
  | none=>match Γ.prim id with
   | some p=>p vs h
   | none=>none
 | .yield l,vs,h=>match h[l]? with
  | some (.loop .ready none t ps assign body) =>
   if vs.length≠ps.length then none else
   match X assign { t:=a2D ps vs t,h:=h } with
   | some (.norm,s)=>match s.h[l]? with
    | some (.loop .ready none t1 ps1 assign1 body1)=>match X body { s with h:=s.h.set l (.loop .busy none t1 ps1 assign1 body1) } with
     | some (e,s)=>match s.h[l]? with
      | some (.loop .busy _ t' ps' assign' body') =>
       if ((s.h.set l (.loop (if e=.norm then .ready else .done) (if e=.norm then none else some e) t' ps' assign' body')).take h.length).all (Obj.under h.length) then
        some (.sc (.bool (decide (e=.norm))),(s.h.set l (.loop (if e=.norm then .ready else .done) (if e=.norm then none else some e) t' ps' assign' body')).take h.length)
       else none
      | _=>none
     | none=>none
    | _=>none
   | _=>none
  | _=>none
def run (Γ:Env):Nat->a3Z × a1n
 | 0=>(fun _ _=>none,fun _ _ _=>none)
 | n+1=>(a0U Γ (run Γ n).1 (run Γ n).2,a3D Γ (run Γ n).1)
end Go.Pm
namespace Go.Pm
def KLe (K K':a1n):Prop:=∀ f a h r,K f a h=some r->K' f a h=some r
def XLe (X X':a3Z):Prop:=∀ c s r,X c s=some r->X' c s=some r
theorem b6q {K K':a1n} (hK:KLe K K') {r:Rand->V} {h:List Obj} {p:Bool} {f:Rand} {args:List Rand} {x:V × List Obj}
 (e:calls K r h p f args=some x):calls K' r h p f args=some x:=by
 unfold calls at *
 cases ht:target (r f) (args.map r) with
 | none=>simp [ht] at e
 | some q =>
  obtain ⟨fk,vs⟩:=q
  simp only [ht] at e ⊢
  cases p with
  | false=>exact hK _ _ _ _ e
  | true =>
   by_cases hv:vs.all V.pure=true
   ·simp only [if_true,hv,Option.bind_eq_some_iff] at e ⊢
    obtain ⟨q,⟨a,ha,e⟩,e2⟩:=e
    exact ⟨q,⟨a,hK _ _ _ _ ha,e⟩,e2⟩
   ·simp [hv] at e
theorem b4O {K K':a1n} (hK:KLe K K') {base:Nat} {h:List Obj} {r:Rand->V} {o:Op} {x:V × List Obj}
 (e:perform K base h r o=some x):perform K' base h r o=some x:=by
 cases o with
 | call p f args=>exact b6q hK e
 | _=>exact e
theorem a8m {Γ:Env} {K K':a1n} (hK:KLe K K') {base:Nat} {o:Oper} {s s':St}
 (e:step Γ K base o s=some s'):step Γ K' base o s=some s':=by
 unfold step at *
 cases hw:wanted o s.t with
 | none=>simp [hw] at e
 | some b =>
  cases b with
  | false=>simpa [hw] using e
  | true =>
   simp only [hw] at e ⊢
   cases hp:perform K base s.h (rd Γ s.t) o.op with
   | none=>simp [hp] at e
   | some x=>rw [b4O hK hp];simpa [hp] using e
theorem b2s {Γ:Env} {K K':a1n} (hK:KLe K K') {base:Nat} {o:Oper} {s s':St × List (Nat × Acc)}
 (e:stepT Γ K base o s=some s'):stepT Γ K' base o s=some s':=by
 unfold stepT at *
 cases hw:wanted o s.1.t with
 | none=>simp [hw] at e
 | some b =>
  cases b with
  | false =>
   simp only [hw,Option.map_eq_some_iff] at e ⊢
   obtain ⟨a,ha,e⟩:=e
   exact ⟨a,a8m hK ha,e⟩
  | true =>
   simp only [hw] at e ⊢
   split at e
   ·rename_i hc
    rw [if_pos hc]
    simp only [Option.map_eq_some_iff] at e ⊢
    obtain ⟨a,ha,e⟩:=e
    exact ⟨a,a8m hK ha,e⟩
   ·cases e
theorem a9p {Γ:Env} {K K':a1n} (hK:KLe K K') {base:Nat}:∀ {ops:List Oper} {s s':St},
 steps Γ K base ops s=some s'->steps Γ K' base ops s=some s'
 | [],_,_,e=>e
 | o::os,s,s',e=>by
  unfold steps at *
  cases hs:step Γ K base o s with
  | none=>simp [hs] at e
  | some s1=>rw [a8m hK hs];rw [hs] at e;exact a9p hK e
theorem a8D {Γ:Env} {K K':a1n} (hK:KLe K K') {base:Nat}:∀ {ops:List Oper} {s s':St × List (Nat × Acc)},
 a3c Γ K base ops s=some s'->a3c Γ K' base ops s=some s'
 | [],_,_,e=>e
 | o::os,s,s',e=>by
  unfold a3c at *
  cases hs:stepT Γ K base o s with
  | none=>simp [hs] at e
  | some s1=>rw [b2s hK hs];rw [hs] at e;exact a8D hK e
theorem b5C {Γ:Env} {K K':a1n} (hK:KLe K K') {nal:Nat} {ops:List Oper} {d:Bool} {keep:List Nat} {s:St} {r:Ex × St}
 (e:region Γ K nal ops d keep s=some r):region Γ K' nal ops d keep s=some r:=by
 unfold region at *
 cases d with
 | false =>
  simp only [Option.map_eq_some_iff] at e ⊢
  obtain ⟨a,ha,e⟩:=e
  exact ⟨a,a9p hK ha,e⟩
 | true =>
  simp only [Option.map_eq_some_iff] at e ⊢
  obtain ⟨a,⟨b,hb,e1⟩,e⟩:=e
  exact ⟨a,⟨b,a8D hK hb,e1⟩,e⟩
theorem b1G {Γ:Env} {X X':a3Z} {K K':a1n} (hX:XLe X X') (hK:KLe K K') {c:AC} {s:St} {r:Ex × St}
 (e:a0U Γ X K c s=some r):a0U Γ X' K' c s=some r:=by
 cases c with
 | skip=>exact e
 | union keep it dst n=>exact e
 | stuck=>simp [a0U] at e
 | region nal ops d keep=>exact b5C hK e
 | seq a b =>
  simp only [a0U] at e ⊢
  cases ha:X a s with
  | none=>rw [ha] at e;cases e
  | some q =>
   obtain ⟨x,s1⟩:=q
   rw [hX _ _ _ ha];rw [ha] at e
   cases x with
   | norm=>exact hX _ _ _ e
   | exit _=>exact e
   | ret=>exact e
 | cond c a b =>
  simp only [a0U] at e ⊢
  split at e
  ·exact hX _ _ _ e
  ·exact hX _ _ _ e
  ·cases e
 | block id body =>
  simp only [a0U] at e ⊢
  cases ha:X body s with
  | none=>rw [ha] at e;cases e
  | some q=>rw [hX _ _ _ ha];rw [ha] at e;exact e
 | loop keep body =>
  simp only [a0U] at e ⊢
  cases ha:X body s with
  | none=>rw [ha] at e;cases e
  | some q =>
   obtain ⟨x,s1⟩:=q
   rw [hX _ _ _ ha];rw [ha] at e
   cases x with
   | norm =>
    simp only at e ⊢
    cases ht:trim keep s.h.length s1 with
    | none=>rw [ht] at e;cases e
    | some s2=>rw [ht] at e;exact hX _ _ _ e
   | exit _=>exact e
   | ret=>exact e
 | rfunc f ps assign body =>
  simp only [a0U] at e ⊢
  split at e
  ·rename_i id vs ht
   cases hk:K (.fn id) vs (s.h++[.loop .ready none (a3i s.t) ps assign body]) with
   | none=>rw [hk] at e;cases e
   | some q=>simp only [hK _ _ _ _ hk];rw [hk] at e;exact e
  ·cases e
 | exit id=>exact e
 | scope body=>exact hX _ _ _ e
 | ret=>exact e
 | frz i body =>
  simp only [a0U] at e ⊢
  cases ha:frozen i s with
  | none=>rw [ha] at e;cases e
  | some q=>rw [ha] at e;exact hX _ _ _ e
 | frzc i body =>
  simp only [a0U] at e ⊢
  cases ha:a3G i s with
  | none=>rw [ha] at e;cases e
  | some q=>rw [ha] at e;exact hX _ _ _ e
theorem b1x {Γ:Env} {X X':a3Z} (hX:XLe X X'):KLe (a3D Γ X) (a3D Γ X'):=by
 intro f a h r e
 cases f with
 | fn id =>
  simp only [a3D] at e ⊢
  split at e
  ·rename_i f hf
   split at e
   ·cases e
   ·rename_i hl
    rw [if_neg hl]
    cases hb:X f.body { t:=number 0 a,h:=h } with
    | none=>rw [hb] at e;cases e
    | some q=>rw [hX _ _ _ hb];rw [hb] at e;exact e
  ·exact e
 | yield l =>
  simp only [a3D] at e ⊢
  split at e
  ·rename_i t ps assign body hl
   split at e
   ·cases e
   ·rename_i hn
    rw [if_neg hn]
    cases hb:X assign { t:=a2D ps a t,h:=h } with
    | none=>rw [hb] at e;cases e
    | some q =>
     obtain ⟨x,s⟩:=q
     rw [hX _ _ _ hb];rw [hb] at e
     cases x with
     | norm =>
      simp only at e ⊢
      split at e
      ·rename_i t1 ps1 assign1 body1 hl1
       cases hb2:X body { s with h:=s.h.set l (.loop .busy none t1 ps1 assign1 body1) } with
       | none=>rw [hb2] at e;cases e
       | some q2=>rw [hX _ _ _ hb2];rw [hb2] at e;exact e
      ·cases e
     | exit _=>cases e
     | ret=>cases e
  ·cases e
theorem b1i (Γ:Env):∀ n,XLe (run Γ n).1 (run Γ (n+1)).1/\KLe (run Γ n).2 (run Γ (n+1)).2
 | 0=>⟨fun _ _ _ e=>by simp [run] at e,fun _ _ _ _ e=>by simp [run] at e⟩
 | n+1=>by
  obtain ⟨h1,h2⟩:=b1i Γ n
  exact ⟨fun c s r e=>b1G h1 h2 e,b1x h1⟩
theorem a4P (Γ:Env) {m n:Nat} (h:m<=n):XLe (run Γ m).1 (run Γ n).1/\KLe (run Γ m).2 (run Γ n).2:=by
 induction h with
 | refl=>exact ⟨fun _ _ _ e=>e,fun _ _ _ _ e=>e⟩
 | step _ ih=>exact ⟨fun c s r e=>(b1i Γ _).1 _ _ _ (ih.1 _ _ _ e),fun f a h r e=>(b1i Γ _).2 _ _ _ _ (ih.2 _ _ _ _ e)⟩
open Classical in
noncomputable def lim {α:Type} (φ:Nat->Option α):Option α :=
 if h:∃ r n,φ n=some r then some h.choose else none
theorem b5Y {α:Type} {φ:Nat->Option α} (hm:∀ m n r,m<=n->φ m=some r->φ n=some r) (r:α):lim φ=some r<->∃ n,φ n=some r:=by
 unfold lim
 constructor
 ·intro h
  split at h
  ·rename_i hx
   obtain ⟨n,hn⟩:=hx.choose_spec
   exact ⟨n,by rw [hn];exact h⟩
  ·cases h
 ·rintro ⟨n,hn⟩
  have hx:∃ r n,φ n=some r:=⟨r,n,hn⟩
  rw [dif_pos hx]
  obtain ⟨m,hm'⟩:=hx.choose_spec
  have h1:=hm _ _ _ (Nat.le_max_left m n) hm'
  have h2:=hm _ _ _ (Nat.le_max_right m n) hn
  rw [h1] at h2
  exact h2
noncomputable def X (Γ:Env):a3Z:=fun c s=>lim fun n=>(run Γ n).1 c s
noncomputable def K (Γ:Env):a1n:=fun f a h=>lim fun n=>(run Γ n).2 f a h
theorem a4a {Γ:Env} {c:AC} {s:St} {r:Ex × St}:X Γ c s=some r<->∃ n,(run Γ n).1 c s=some r :=
 b5Y (fun _ _ _ hmn e=>(a4P Γ hmn).1 _ _ _ e) r
theorem a9e {Γ:Env} {f:Fk} {a:List V} {h:List Obj} {r:V × List Obj}:K Γ f a h=some r<->∃ n,(run Γ n).2 f a h=some r :=
 b5Y (fun _ _ _ hmn e=>(a4P Γ hmn).2 _ _ _ _ e) r
theorem c0q {Γ:Env} (n:Nat):XLe (run Γ n).1 (X Γ):=fun _ _ _ e=>a4a.2 ⟨n,e⟩
theorem c5v {Γ:Env} (n:Nat):KLe (run Γ n).2 (K Γ):=fun _ _ _ _ e=>a9e.2 ⟨n,e⟩
/-! ### What the whole does, some number of steps does -/
theorem b5y {Γ:Env} {base:Nat} {h:List Obj} {r:Rand->V} {o:Op} {x:V × List Obj}
 (e:perform (K Γ) base h r o=some x):∃ n,perform (run Γ n).2 base h r o=some x:=by
 cases o with
 | call p f args =>
  simp only [perform,calls] at e ⊢
  cases ht:target (r f) (args.map r) with
  | none=>simp [ht] at e
  | some q =>
   obtain ⟨fk,vs⟩:=q
   simp only [ht] at e ⊢
   cases p with
   | false=>exact a9e.1 e
   | true =>
    by_cases hv:vs.all V.pure=true
    ·simp only [if_true,hv,Option.bind_eq_some_iff] at e ⊢
     obtain ⟨q,⟨a,ha,e⟩,e2⟩:=e
     obtain ⟨n,hn⟩:=a9e.1 ha
     exact ⟨n,q,⟨a,hn,e⟩,e2⟩
    ·simp [hv] at e
 | _=>exact ⟨0,e⟩
theorem b1k {Γ:Env} {base:Nat} {o:Oper} {s s':St} (e:step Γ (K Γ) base o s=some s'):∃ n,step Γ (run Γ n).2 base o s=some s':=by
 unfold step at *
 cases hw:wanted o s.t with
 | none=>simp [hw] at e
 | some b =>
  cases b with
  | false=>exact ⟨0,by simpa [hw] using e⟩
  | true =>
   simp only [hw] at e ⊢
   cases hp:perform (K Γ) base s.h (rd Γ s.t) o.op with
   | none=>simp [hp] at e
   | some x=>obtain ⟨n,hn⟩:=b5y hp;exact ⟨n,by rw [hn];simpa [hp] using e⟩
theorem b8j {Γ:Env} {base:Nat} {o:Oper} {s s':St × List (Nat × Acc)} (e:stepT Γ (K Γ) base o s=some s') :
 ∃ n,stepT Γ (run Γ n).2 base o s=some s':=by
 unfold stepT at *
 cases hw:wanted o s.1.t with
 | none=>simp [hw] at e
 | some b =>
  cases b with
  | false =>
   simp only [hw,Option.map_eq_some_iff] at e ⊢
   obtain ⟨a,ha,e⟩:=e
   obtain ⟨n,hn⟩:=b1k ha
   exact ⟨n,a,hn,e⟩
  | true =>
   simp only [hw] at e ⊢
   split at e
   ·rename_i hc
    simp only [if_pos hc,Option.map_eq_some_iff] at e ⊢
    obtain ⟨a,ha,e⟩:=e
    obtain ⟨n,hn⟩:=b1k ha
    exact ⟨n,a,hn,e⟩
   ·cases e
theorem b3A {Γ:Env} {base:Nat}:∀ {ops:List Oper} {s s':St},
 steps Γ (K Γ) base ops s=some s'->∃ n,steps Γ (run Γ n).2 base ops s=some s'
 | [],_,_,e=>⟨0,e⟩
 | o::os,s,s',e=>by
  unfold steps at e
  cases hs:step Γ (K Γ) base o s with
  | none=>simp [hs] at e
  | some s1 =>
   rw [hs] at e
   obtain ⟨n,hn⟩:=b1k hs
   obtain ⟨m,hm⟩:=b3A e
   refine ⟨max n m,?_⟩
   unfold steps
   rw [a8m (a4P Γ (Nat.le_max_left n m)).2 hn]
   exact a9p (a4P Γ (Nat.le_max_right n m)).2 hm
theorem b2t {Γ:Env} {base:Nat}:∀ {ops:List Oper} {s s':St × List (Nat × Acc)},
 a3c Γ (K Γ) base ops s=some s'->∃ n,a3c Γ (run Γ n).2 base ops s=some s'
 | [],_,_,e=>⟨0,e⟩
 | o::os,s,s',e=>by
  unfold a3c at e
  cases hs:stepT Γ (K Γ) base o s with
  | none=>simp [hs] at e
  | some s1 =>
   rw [hs] at e
   obtain ⟨n,hn⟩:=b8j hs
   obtain ⟨m,hm⟩:=b2t e
   refine ⟨max n m,?_⟩
   unfold a3c
   rw [b2s (a4P Γ (Nat.le_max_left n m)).2 hn]
   exact a8D (a4P Γ (Nat.le_max_right n m)).2 hm
theorem b7u {Γ:Env} {c:AC} {s:St} {r:Ex × St} (e:a0U Γ (X Γ) (K Γ) c s=some r) :
 ∃ n,a0U Γ (run Γ n).1 (run Γ n).2 c s=some r:=by
 cases c with
 | skip=>exact ⟨0,e⟩
 | union keep it dst n=>exact ⟨0,e⟩
 | stuck=>simp [a0U] at e
 | region nal ops d keep =>
  simp only [a0U,region] at e ⊢
  cases d with
  | false =>
   simp only [Option.map_eq_some_iff] at e ⊢
   obtain ⟨a,ha,e⟩:=e
   obtain ⟨n,hn⟩:=b3A ha
   exact ⟨n,a,hn,e⟩
  | true =>
   simp only [Option.map_eq_some_iff] at e ⊢
   obtain ⟨a,⟨b,hb,e1⟩,e⟩:=e
   obtain ⟨n,hn⟩:=b2t hb
   exact ⟨n,a,⟨b,hn,e1⟩,e⟩
 | seq a b =>
  simp only [a0U] at e ⊢
  cases ha:X Γ a s with
  | none=>rw [ha] at e;cases e
  | some q =>
   obtain ⟨x,s1⟩:=q
   rw [ha] at e
   obtain ⟨n,hn⟩:=a4a.1 ha
   cases x with
   | norm =>
    obtain ⟨m,hm⟩:=a4a.1 e
    refine ⟨max n m,?_⟩
    rw [(a4P Γ (Nat.le_max_left n m)).1 _ _ _ hn]
    exact (a4P Γ (Nat.le_max_right n m)).1 _ _ _ hm
   | exit _=>exact ⟨n,by rw [hn];exact e⟩
   | ret=>exact ⟨n,by rw [hn];exact e⟩
 | cond c a b =>
  simp only [a0U] at e ⊢
  split at e
  ·exact a4a.1 e
  ·exact a4a.1 e
  ·cases e
 | block id body =>
  simp only [a0U] at e ⊢
  cases ha:X Γ body s with
  | none=>rw [ha] at e;cases e
  | some q =>
   rw [ha] at e
   obtain ⟨n,hn⟩:=a4a.1 ha
   exact ⟨n,by rw [hn];exact e⟩
 | loop keep body =>
  simp only [a0U] at e ⊢
  cases ha:X Γ body s with
  | none=>rw [ha] at e;cases e
  | some q =>
   obtain ⟨x,s1⟩:=q
   rw [ha] at e
   obtain ⟨n,hn⟩:=a4a.1 ha
   cases x with
   | norm =>
    simp only at e
    cases ht:trim keep s.h.length s1 with
    | none=>rw [ht] at e;cases e
    | some s2 =>
     rw [ht] at e
     obtain ⟨m,hm⟩:=a4a.1 e
     refine ⟨max n m,?_⟩
     rw [(a4P Γ (Nat.le_max_left n m)).1 _ _ _ hn]
     simp only [ht]
     exact (a4P Γ (Nat.le_max_right n m)).1 _ _ _ hm
   | exit _=>exact ⟨n,by rw [hn];exact e⟩
   | ret=>exact ⟨n,by rw [hn];exact e⟩
 | rfunc f ps assign body =>
  simp only [a0U] at e ⊢
  split at e
  ·rename_i id vs ht
   cases hk:K Γ (.fn id) vs (s.h++[.loop .ready none (a3i s.t) ps assign body]) with
   | none=>rw [hk] at e;cases e
   | some q =>
    rw [hk] at e
    obtain ⟨n,hn⟩:=a9e.1 hk
    exact ⟨n,by simp only [hn];exact e⟩
  ·cases e
 | exit id=>exact ⟨0,e⟩
 | scope body=>exact a4a.1 e
 | ret=>exact ⟨0,e⟩
 | frz i body =>
  simp only [a0U] at e ⊢
  cases ha:frozen i s with
  | none=>rw [ha] at e;cases e
  | some q=>rw [ha] at e;exact a4a.1 e
 | frzc i body =>
  simp only [a0U] at e ⊢
  cases ha:a3G i s with
  | none=>rw [ha] at e;cases e
  | some q=>rw [ha] at e;exact a4a.1 e
theorem b7o {Γ:Env} {f:Fk} {a:List V} {h:List Obj} {r:V × List Obj} (e:a3D Γ (X Γ) f a h=some r) :
 ∃ n,a3D Γ (run Γ n).1 f a h=some r:=by
 cases f with
 | fn id =>
  simp only [a3D] at e ⊢
  split at e
  ·rename_i f hf
   split at e
   ·cases e
   ·rename_i hl
    cases hb:X Γ f.body { t:=number 0 a,h:=h } with
    | none=>rw [hb] at e;cases e
    | some q =>
     rw [hb] at e
     obtain ⟨n,hn⟩:=a4a.1 hb
     exact ⟨n,by simp only [if_neg hl,hn];exact e⟩
  ·rename_i hf
   exact ⟨0,e⟩
 | yield l =>
  simp only [a3D] at e ⊢
  split at e
  ·rename_i t ps assign body hl
   split at e
   ·cases e
   ·rename_i hnl
    cases hb:X Γ assign { t:=a2D ps a t,h:=h } with
    | none=>rw [hb] at e;cases e
    | some q =>
     obtain ⟨x,s⟩:=q
     rw [hb] at e
     obtain ⟨n,hn⟩:=a4a.1 hb
     cases x with
     | norm =>
      simp only at e
      split at e
      ·rename_i t1 ps1 assign1 body1 hl1
       cases hb2:X Γ body { s with h:=s.h.set l (.loop .busy none t1 ps1 assign1 body1) } with
       | none=>rw [hb2] at e;cases e
       | some q2 =>
        rw [hb2] at e
        obtain ⟨m,hm⟩:=a4a.1 hb2
        refine ⟨max n m,?_⟩
        simp only [if_neg hnl,(a4P Γ (Nat.le_max_left n m)).1 _ _ _ hn,hl1,(a4P Γ (Nat.le_max_right n m)).1 _ _ _ hm]
        exact e
      ·cases e
     | exit _=>cases e
     | ret=>cases e
  ·cases e
theorem X_eq (Γ:Env) (c:AC) (s:St):X Γ c s=a0U Γ (X Γ) (K Γ) c s:=by
 apply Option.ext
 intro r
 constructor
 ·intro e
  obtain ⟨n,hn⟩:=a4a.1 e
  cases n with
  | zero=>simp [run] at hn
  | succ n=>exact b1G (c0q n) (c5v n) hn
 ·intro e
  obtain ⟨n,hn⟩:=b7u e
  exact a4a.2 ⟨n+1,hn⟩
theorem K_eq (Γ:Env) (f:Fk) (a:List V) (h:List Obj):K Γ f a h=a3D Γ (X Γ) f a h:=by
 apply Option.ext
 intro r
 constructor
 ·intro e
  obtain ⟨n,hn⟩:=a9e.1 e
  cases n with
  | zero=>simp [run] at hn
  | succ n=>exact b1x (c0q n) _ _ _ _ hn
 ·intro e
  obtain ⟨n,hn⟩:=b7o e
  exact a9e.2 ⟨n+1,hn⟩
end Go.Pm
