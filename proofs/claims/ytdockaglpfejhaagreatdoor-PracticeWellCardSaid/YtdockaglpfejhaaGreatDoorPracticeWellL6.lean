/- The statement PracticeWell, part 6. -/
import Derived.Test.YtdockaglpfejhaaGreatDoorPracticeWellL5
set_option linter.all false
set_option maxRecDepth 100000
namespace Go.Pm
theorem tbeq (b:Bool):(true == b)=b:=by cases b<;>rfl
theorem fbeq (b:Bool):(false == b)=!b:=by cases b<;>rfl
attribute [go_sem] tbeq fbeq Bool.not_true Bool.not_false
section
variable {β:Type}
def b2h (es:Nat) (x y:V) (o:Option Obj) (p:Nat) (f:C->Option Obj->Option β) (_:Tag f:=.mk):Option β :=
 match elems es y with
 | none=>none
 | some m=>match x with
  | .sc (.sl k es' l)=>if es'=es then (match m with
   | []=>f (.sl k es l) none
   | _::_=>match o with
    | some .free=>if k≠.shared/\l.length+m.length<=room then f (.msl p 0 (l.length+m.length) 0 es) (some (.var (l++m).flatten)) else none
    | _=>none) else none
  | _=>none
def putO (h:List Obj) (p:Nat) (o:Option Obj):List Obj:=match o with|none=>h|some o=>h.set p o
@[go_sem] theorem c7a (h:List Obj) (p:Nat):putO h p none=h:=nrfl rfl
@[go_sem] theorem c7b (h:List Obj) (p:Nat) (o:Obj):putO h p (some o)=h.set p o:=nrfl rfl
@[go_sem] theorem c3q (Γ:Env) (base:Nat) (d:Option Nat) (t:List (Nat × V)) (h:List Obj) (k:St->Option β) (a es:Nat) (x y:Rand) :
 P1 Γ base d (.appendM a es x y) ⟨t,h⟩ k=b2h es (rd Γ t x) (rd Γ t y) (h[base+a]?) (base+a) fun c w=>k ⟨put1 d (.sc c) t,putO h (base+a) w⟩:=by
 simp only [P1,perform,eff,b2h]
 cases elems es (rd Γ t y) with
 | none=>rfl
 | some m =>
  simp only
  cases rd Γ t x with
  | sc c =>
   cases c with
   | sl kk es' l =>
    simp only
    by_cases he:es'=es
    ·rw [if_pos he,if_pos he]
     cases m with
     | nil=>rfl
     | cons e m =>
      simp only
      by_cases hf:h[base+a]?=some .free
      ·have hi:=a1S.2 hf
       rw [hf]
       simp only [hi,true_and]
       by_cases hc:kk≠.shared/\l.length+(e::m).length<=room
       ·rw [if_pos hc,if_pos hc];rfl
       ·rw [if_neg hc,if_neg hc];rfl
      ·have hi:a1z h (base+a)=false:=by cases e:a1z h (base+a) with|false=>rfl|true=>exact absurd (a1S.1 e) hf
       simp only [hi,Bool.false_eq_true,false_and,if_false,Option.map_none]
       all_goals (split<;>first|(rename_i hh;exact absurd hh hf)|rfl)
    ·simp [if_neg he]
   | _=>rfl
  | _=>rfl
theorem b6J (es:Nat) (k:SK) (m:List (List C)) (p:Nat) (f:C->Option Obj->Option β) (hm:m≠[]) (hr:m.length<=room) :
 b2h es (.sc (.sl .full es [])) (.sc (.sl k es m)) (some .free) p f=f (.msl p 0 m.length 0 es) (some (.var m.flatten)):=by
 cases m with
 | nil=>exact absurd rfl hm
 | cons e m=>simp only [b2h,elems,if_true,List.length_nil,Nat.zero_add,List.nil_append];rw [if_pos ⟨by decide,hr⟩]
end
def b1I:C->Bool
 | .map _=>false
 | .msl _ _ _ _ _=>false
 | _=>true
theorem b1O {c:C} (hc:b1I c=true) (n:Nat) (h:List Obj):a3p (n+1) c h=some (c,h):=by
 cases c<;>first|rfl|simp [b1I] at hc
theorem a7S (h:List Obj):∀ (cs:List C) (n:Nat),cs.length<n->(∀ c,c∈cs->b1I c=true)->a2Z n cs h=some (cs,h)
 | [],0,hn,_=>by simp at hn
 | [],n+1,_,_=>rfl
 | c::cs,0,hn,_=>by simp at hn
 | c::cs,n+1,hn,hc=>by
  cases n with
  | zero=>simp at hn
  | succ n =>
   simp only [a2Z,b1O (hc c (by simp)),a7S h cs (n+1) (by simp at hn ⊢;omega) (fun x hx=>hc x (by simp [hx]))]
theorem e5R {c c':C} {cs cs':List C} {n:Nat} {h h' h'':List Obj} (h1:a3p n c h=some (c',h')) (h2:a2Z n cs h'=some (cs',h'')):a2Z (n+1) (c::cs) h=some (c'::cs',h''):=by
 simp only [a2Z,h1,h2]
theorem b2J {r len es n:Nat} {cs:List C} {l:List (List C)} {h:List Obj} (hr:h[r]?=some (.var cs)) (hc:cs.map a0r=cs) (hf:∀ c,c∈cs->b1I c=true) (hn:cs.length<n) (hp:C.a0v cs=true) (hl:chunks cs 0 es len=some l) :
 a3p (n+1) (.msl r 0 len 0 es) h=some (.sl .shared es l,h.set r .dead):=by
 simp only [a3p,hr,hc,a7S h cs n hn hf,hp,if_true,hl,Option.map_some]
 simp
end Go.Pm
namespace Go.Pm
variable {Γ:Env} {β:Type}
def onSet:Option Obj->Nat->((List Int->Bool)->Option β)->Option β
 | some (.set n' f),n,k=>if n'=n then k f else none
 | _,_,_=>none
@[go_sem] theorem c8y (n:Nat) (f:List Int->Bool) (k:(List Int->Bool)->Option β):onSet (some (.set n f)) n k=k f:=by simp [onSet]
@[go_sem] theorem c7t (m n:Nat) (f:List Int->Bool):Obj.under m (.set n f)=true:=nrfl rfl
@[go_sem] theorem c5M (m n:Nat) (f:List Int->Bool):Obj.under m (.iter n f)=true:=nrfl rfl
@[go_sem] theorem c2H (m n:Nat) (f:List Int->Bool):C.under m (.iset n f)=true:=nrfl rfl
@[go_sem] theorem c3G (n:Nat) (f:List Int->Bool):C.pure (.iset n f)=true:=nrfl rfl
@[go_sem] theorem a3X (n:Nat) (f:List Int->Bool):a0r (.iset n f)=.iset n f:=nrfl rfl
@[go_sem] theorem c3z (n:Nat) (f:List Int->Bool):V.cells (.sc (.iset n f))=[.iset n f]:=nrfl rfl
@[go_sem] theorem c2Y (n:Nat) (f:List Int->Bool) (vs:List V):shapes (.sc (.iset n f)::vs)=(shapes vs).map (none::·):=nrfl rfl
@[go_sem] theorem c8n (b:Nat) (h:List Obj) (m n:Nat) (f:List Int->Bool):frz b h (m+1) (.iset n f)=some (.iset n f):=nrfl rfl
def a8S (h:List Obj) (n:Nat):V->((List Int->Bool)->Option β)->Option β
 | .sc (.iset n' f),k=>if n'=n then k f else none
 | .sc (.map p),k=>onSet (h[p]?) n k
 | _,_=>none
@[go_sem] theorem c2O (h:List Obj) (n:Nat) (f:List Int->Bool) (k:(List Int->Bool)->Option β):a8S h n (.sc (.iset n f)) k=k f:=by simp [a8S]
@[go_sem] theorem c5p (h:List Obj) (n p:Nat) (k:(List Int->Bool)->Option β):a8S h n (.sc (.map p)) k=onSet (h[p]?) n k:=rfl
def b0C (n:Nat) (v:V) (k:List Int->Option β):Option β:=match a6a n v with
 | some ks=>k ks
 | none=>none
@[go_sem] theorem c9Q (a b:Int) (k:List Int->Option β):b0C 2 (.agg [.int .i64 a,.int .i64 b]) k=k [a,b]:=rfl
@[go_sem] theorem c9P (a:Int) (k:List Int->Option β):b0C 1 (.agg [.int .i64 a]) k=k [a]:=rfl
def b0f:V->(Nat->Option β)->Option β
 | .sc (.map p),k=>k p
 | _,_=>none
@[go_sem] theorem c6O (p:Nat) (k:Nat->Option β):b0f (.sc (.map p)) k=k p:=rfl
def b4K:V->(Nat->(List Int->Bool)->Option β)->Option β
 | .sc (.iset n f),k=>k n f
 | _,_=>none
@[go_sem] theorem c6M (n:Nat) (f:List Int->Bool) (k:Nat->(List Int->Bool)->Option β):b4K (.sc (.iset n f)) k=k n f:=rfl
variable (base:Nat) (d:Option Nat) (t:List (Nat × V)) (h:List Obj) (k:St->Option β)
@[go_sem] theorem c7Q (a n:Nat):P1 Γ base d (.mkset a n) ⟨t,h⟩ k=a5D (h[base+a]?) (k ⟨put1 d (.sc (.map (base+a))) t,h.set (base+a) (.set n fun _=>false)⟩):=by
 simp only [P1,perform,eff]
 by_cases hf:h[base+a]?=some .free
 ·have hi:=a1S.2 hf
  rw [hf];simp [hi];rfl
 ·have hi:a1z h (base+a)=false:=by cases e:a1z h (base+a) with|false=>rfl|true=>exact absurd (a1S.1 e) hf
  rw [a4C _ hf];simp [hi]
@[go_sem] theorem c9i (a n:Nat):P1 Γ base d (.kset a n) ⟨t,h⟩ k=a5D (h[base+a]?) (k ⟨put1 d (.sc (.iset n fun _=>false)) t,h.set (base+a) .dead⟩):=by
 simp only [P1,perform,eff]
 by_cases hf:h[base+a]?=some .free
 ·have hi:=a1S.2 hf
  rw [hf];simp [hi];rfl
 ·have hi:a1z h (base+a)=false:=by cases e:a1z h (base+a) with|false=>rfl|true=>exact absurd (a1S.1 e) hf
  rw [a4C _ hf];simp [hi]
@[go_sem] theorem c7T (n:Nat) (m key:Rand):P1 Γ base d (.slook n m key) ⟨t,h⟩ k=a8S h n (rd Γ t m) fun f=>b0C n (rd Γ t key) fun ks=>k ⟨put1 d (.sc (.bool (f ks))) t,h⟩:=by
 simp only [P1,perform,eff,b0C]
 generalize a6a n (rd Γ t key)=ok
 cases rd Γ t m with
 | sc c =>
  cases c with
  | iset n' f=>by_cases hn:n'=n<;>cases ok<;>simp [setOf,a8S,hn]<;>rfl
  | map p =>
   simp only [a8S,setOf]
   cases h[p]? with
   | none=>cases ok<;>rfl
   | some o =>
    cases o with
    | set n' f=>by_cases hn:n'=n<;>cases ok<;>simp [onSet,hn]<;>rfl
    | _=>cases ok<;>rfl
  | _=>cases ok<;>rfl
 | _=>cases ok<;>rfl
@[go_sem] theorem c9n (n:Nat) (m key:Rand):P1 Γ base d (.sadd n m key) ⟨t,h⟩ k=b0f (rd Γ t m) fun p=>b0C n (rd Γ t key) fun ks=>onSet (h[p]?) n fun f=>k ⟨put1 d (.tup []) t,h.set p (.set n fun x=>f x||decide (x=ks))⟩:=by
 simp only [P1,perform,eff,b0C]
 cases rd Γ t m with
 | sc c =>
  cases c with
  | map p =>
   simp only [b0f]
   cases a6a n (rd Γ t key) with
   | none=>rfl
   | some ks =>
    simp only
    cases h[p]? with
    | none=>rfl
    | some o =>
     cases o with
     | set n' f=>by_cases hn:n'=n<;>simp [hn,onSet]<;>rfl
     | _=>rfl
  | _=>rfl
 | _=>rfl
@[go_sem] theorem d0u (a:Nat) (x:Rand):P1 Γ base d (.rng a x) ⟨t,h⟩ k=b4K (rd Γ t x) fun n f=>a5D (h[base+a]?) (k ⟨put1 d (.sc (.ptr (base+a) 0)) t,h.set (base+a) (.iter n f)⟩):=by
 simp only [P1,perform,eff]
 cases rd Γ t x with
 | sc c =>
  cases c with
  | iset n f =>
   simp only [b4K]
   by_cases hf:h[base+a]?=some .free
   ·have hi:=a1S.2 hf
    rw [hf];simp [hi];rfl
   ·have hi:a1z h (base+a)=false:=by cases e:a1z h (base+a) with|false=>rfl|true=>exact absurd (a1S.1 e) hf
    rw [a4C _ hf];simp [hi]
  | _=>rfl
 | _=>rfl
def b4M:V->(Nat->Option β)->Option β
 | .sc (.ptr p 0),k=>k p
 | _,_=>none
@[go_sem] theorem c6P (p:Nat) (k:Nat->Option β):b4M (.sc (.ptr p 0)) k=k p:=rfl
def b2j:Option Obj->Nat->((List Int->Bool)->Option β)->Option β
 | some (.iter n' f),n,k=>if n'=n then k f else none
 | _,_,_=>none
@[go_sem] theorem c6N (n:Nat) (f:List Int->Bool) (k:(List Int->Bool)->Option β):b2j (some (.iter n f)) n k=k f:=by simp [b2j]
@[go_sem] theorem c8Z (keep:List Nat) (it dst n:Nat) (Q:Ex->St->Option β):E Γ (.union keep it dst n) ⟨t,h⟩ Q =
 b4M (get t it) fun p=>b0f (get t dst) fun q=>b2j (h[p]?) n fun f=>onSet (h[q]?) n fun f0=>Q .norm ⟨restrict keep t,(h.set p .dead).set q (.set n fun x=>f0 x||f x)⟩:=by
 unfold E
 rw [X_eq]
 simp only [a0U]
 generalize get t it=vi
 generalize get t dst=vd
 cases vi with
 | sc ci =>
  cases ci with
  | ptr p off =>
   cases off with
   | zero =>
    cases vd with
    | sc cd =>
     cases cd with
     | map q =>
      simp only [b4M,b0f]
      generalize h[p]?=op
      generalize h[q]?=oq
      cases op with
      | none=>rfl
      | some op =>
       cases op with
       | iter n1 f =>
        simp only [b2j]
        cases oq with
        | none=>by_cases h1:n1=n<;>simp [h1,onSet]<;>rfl
        | some oq =>
         cases oq with
         | set n2 f0=>by_cases h1:n1=n<;>by_cases h2:n2=n<;>simp [h1,h2,onSet]<;>rfl
         | _=>by_cases h1:n1=n<;>simp [h1,onSet]<;>rfl
       | _=>rfl
     | _=>rfl
    | _=>rfl
   | succ off=>rfl
  | _=>rfl
 | _=>rfl
/-! Texts. -/
def b6L (v:V) (f:ByteArray->Option β) (_:Tag f:=.mk):Option β:=match v with | .sc (.str s)=>f s|_=>none
@[go_sem] theorem c8B (s:ByteArray) (f:ByteArray->Option β):b6L (.sc (.str s)) f=f s:=nrfl rfl
@[go_sem] theorem c9h (x i:Rand):P1 Γ base d (.istr x i) ⟨t,h⟩ k=b6L (rd Γ t x) fun s=>a7v (rd Γ t i) fun _ n=>br (decide (0<=n/\n<s.size)) (a0L (s[n.toNat]?) fun b=>k ⟨put1 d (.sc (.int .u8 b.toNat)) t,h⟩) none:=by
 simp only [P1,perform,eff]
 cases rd Γ t x with
 | sc c =>
  cases c with
  | str s =>
   simp only [b6L]
   cases rd Γ t i with
   | sc c =>
    cases c with
    | int ki n =>
     simp only [a7v,place]
     by_cases hn:0<=n/\n<s.size
     ·simp only [if_pos hn,decide_eq_true hn,a4R]
      cases s[n.toNat]?<;>rfl
     ·simp only [if_neg hn,decide_eq_false hn,a4r];rfl
    | _=>rfl
   | _=>rfl
  | _=>rfl
 | _=>rfl
def c0n (v:V) (f:SK->Option β) (_:Tag f:=.mk):Option β:=match v with | .sc (.sl k _ _)=>f k|_=>none
@[go_sem] theorem c8A (k:SK) (es:Nat) (l:List (List C)) (f:SK->Option β):c0n (.sc (.sl k es l)) f=f k:=nrfl rfl
@[go_sem] theorem c6d (neg:Bool) (x:Rand):P1 Γ base d (.isnil 0 neg x) ⟨t,h⟩ k=c0n (rd Γ t x) fun kk=>k ⟨put1 d (.sc (.bool (neg ^^ decide (kk=.nil)))) t,h⟩:=by
 simp only [P1,perform,eff]
 cases rd Γ t x with
 | sc c=>cases c<;>rfl
 | _=>rfl
theorem a2o {α:Type} {a:Option α} {x:α} {f:α->Option β} {r:Option β} (h:a=some x) (h2:f x=r):a0L a f=r:=by subst h;exact h2
end Go.Pm
namespace Go.Pm
theorem a4Q {β:Type} {Γ:Env} {α:Type} {keep:List Nat} {B:AC} (S:Nat->St) (l:List α) (T:Ex × St) (Q:Ex->St->Option β) {s0:St} (hs:s0=S 0)
 (hstep:∀ (i:Nat) x,l[i]?=some x->E Γ B (S i) (fun e s1=>match e with | .norm=>trim keep (S i).h.length s1|_=>none)=some (S (i+1)))
 (hend:E Γ B (S l.length) (fun e s1=>match e with | .norm=>none|e=>some (e,s1))=some T) :
 E Γ (.loop keep B) s0 Q=Q T.1 T.2:=by
 subst hs
 have:=a6g (Γ:=Γ) (keep:=keep) (B:=B) (fun i (_:Unit)=>S i) l (fun a _=>a) (fun _=>T) Q (fun i a x hx=>hstep i x hx) (fun a=>hend) ()
 exact this
theorem take_snoc {α:Type} {l:List α} {i:Nat} {x:α} (h:l[i]?=some x):l.take (i+1)=l.take i++[x]:=by
 rw [List.take_add_one,h];rfl
def a1I (p:Nat->Bool) (n:Nat):Option Nat:=(List.range n).find? p
theorem a4j {p:Nat->Bool} {n i:Nat}:a1I p n=some i<->i<n/\p i=true/\∀ j,j<i->p j=false:=by
 unfold a1I
 rw [List.find?_eq_some_iff_getElem]
 constructor
 ·rintro ⟨h1,k,hk,h2,h3⟩
  simp only [List.length_range] at hk
  simp only [List.getElem_range] at h2
  subst h2
  refine ⟨hk,h1,fun j hj=>?_⟩
  have:=h3 j hj
  simpa using this
 ·rintro ⟨h1,h2,h3⟩
  refine ⟨h2,i,by simpa using h1,by simp,fun j hj=>?_⟩
  simpa using h3 j hj
theorem a3y {p:Nat->Bool} {n:Nat}:a1I p n=none<->∀ i,i<n->p i=false:=by
 unfold a1I
 simp [List.find?_eq_none]
theorem b2E {p:Nat->Bool} {n:Nat}:a0z (fun k (_:Nat)=>p k) 0 (List.range n)=(a1I p n).map fun k=>(k,k):=by
 cases h:a0z (fun k (_:Nat)=>p k) 0 (List.range n) with
 | none =>
  have h2:a1I p n=none:=by
   rw [a2L] at h
   rw [a3y]
   intro i hi
   have:=h i i (by rw [List.getElem?_range hi])
   rwa [Nat.zero_add] at this
  rw [h2];rfl
 | some q =>
  obtain ⟨i,x⟩:=q
  obtain ⟨_,h1,h2,h3⟩:=a3F h
  rw [Nat.sub_zero] at h1 h3
  have hi:i<n:=by have:=(List.getElem?_eq_some_iff.1 h1).1;simpa using this
  have h4:a1I p n=some i:=by
   rw [a4j]
   refine ⟨hi,h2,fun j hj=>?_⟩
   have:=h3 j j hj (by rw [List.getElem?_range (by omega)])
   rwa [Nat.zero_add] at this
  rw [h4]
  rw [List.getElem?_range hi] at h1
  simp only [Option.some.injEq] at h1
  subst h1;rfl
theorem a6N {β:Type} {Γ:Env} {keep:List Nat} {B:AC} (m:Nat) (S:Nat->St) (p:Nat->Bool) (R:Nat->Ex × St) (T:Ex × St) (Q:Ex->St->Option β) {s0:St} (hs:s0=S 0)
 (hstep:∀ (i:Nat),i<m->p i=false->E Γ B (S i) (fun e s1=>match e with | .norm=>trim keep (S i).h.length s1|_=>none)=some (S (i+1)))
 (hexit:∀ (i:Nat),i<m->p i=true->E Γ B (S i) (fun e s1=>match e with | .norm=>none|e=>some (e,s1))=some (R i))
 (hend:E Γ B (S m) (fun e s1=>match e with | .norm=>none|e=>some (e,s1))=some T) :
 E Γ (.loop keep B) s0 Q=match a1I p m with|some i=>Q (R i).1 (R i).2|none=>Q T.1 T.2:=by
 subst hs
 have h:=a4L (Γ:=Γ) (keep:=keep) (B:=B) S (List.range m) (fun k _=>p k) (fun k _=>R k) T Q (fun i x hx hf=>hstep i (by have:=(List.getElem?_eq_some_iff.1 hx).1;simpa using this) hf)
  (fun i x hx hf=>hexit i (by have:=(List.getElem?_eq_some_iff.1 hx).1;simpa using this) hf) (by rw [List.length_range];exact hend)
 rw [h,b2E]
 cases a1I p m<;>rfl
def topK (k:SK):SK:=match k with | .nil=>.nil|_=>.full
theorem a6u (es:Nat) (k:SK) (l:List (List C)) (n:Nat) (hn:l.length=n):sliced es (.sc (.sl k es l)) none (some (.sc (.int .i64 n))) (some (.sc (.int .i64 n)))=some (.sl (topK k) es l):=by
 subst hn
 cases k<;>simp [sliced,bounds,a9O,b4b,b4c,bound,capOf,a7p,topK]
section
variable {Γ:Env}
end
def ownF (es:Nat) (L:List (List C)):C:=match L with | []=>.sl .full es []|_::_=>.own false es L
@[go_sem] theorem c3F (es:Nat) (L:List (List C)):(V.sc (ownF es L)).cells=[ownF es L]:=by cases L<;>rfl
@[go_sem] theorem c5Q (n es:Nat) (L:List (List C)):C.under n (ownF es L)=true:=by cases L<;>simp [ownF,C.under]
def turn (n below:Int):Int:=if below<1 then 0 else if n.tmod below<0 then n.tmod below+below else n.tmod below
def d8d (l:List Int) (n:Int):Int:=if l=[] then 0 else l.getD (turn n l.length).toNat 0
@[go_sem] theorem c9z (k:IntKind) (x y:Int):bin .shl (.sc (.int k x)) (.sc (.int .i64 y))=br (decide (y<0)) none (some (.int k (k.wrap (x*2 ^ (Nat.min y.toNat k.bits))))):=by
 simp only [bin,shifted];by_cases h:y<0<;>simp [h]
@[go_sem] theorem c9A (k:IntKind) (x y:Int):bin .shr (.sc (.int k x)) (.sc (.int .i64 y))=br (decide (y<0)) none (some (.int k (x.fdiv (2 ^ (Nat.min y.toNat k.bits))))):=by
 simp only [bin,shifted];by_cases h:y<0<;>simp [h]
@[go_sem] theorem c9p (k:IntKind) (x y:Int):bin .and (.sc (.int k x)) (.sc (.int k y))=some (.int k (a5l k (BitVec.ofInt k.bits x &&& BitVec.ofInt k.bits y))):=by simp [bin,arith]
def earlier (l m:List Int):Bool:=match a0z (fun _ (p:Int × Int)=>decide (p.1≠p.2)) 0 (l.zip m) with|some (_,p)=>decide (p.1<p.2)|none=>decide ((l.length:Int)<m.length)
def d2R (l:List Int) (n:Int):Int:=match a0z (fun _ x=>decide (x=n)) 0 l with|some (i,_)=>i|none => -1
def kS {α:Type} (L:List α):SK:=match L with | []=>.nil|_::_=>.shared
theorem a9I (es:Nat) (L:List (List C)):a0r (ownC es L)=.sl (kS L) es L:=by cases L<;>rfl
theorem d6p {α β:Type} (f:α->β) (L:List α):kS (L.map f)=kS L:=by cases L<;>rfl
end Go.Pm
namespace Go.Pm.St
structure Span where
 lo:Int
 hi:Int
structure Day where
 plain:Int
 full:Int
 needs:Int
structure Rest where
 day:Int
 singer:Int
 deriving DecidableEq
structure Sign where
 singer:Int
 day:Int
 left:Int
 err:Int
structure Book where
 ks:SK
 singers:List Span
 c0:Span
 c1:Span
 c2:Span
 kd:SK
 days:List Day
 kr:SK
 rests:List Rest
 kg:SK
 signs:List Sign
def within (n low high:Int):Bool:=decide (low<=n)&&decide (n<=high)
theorem within_iff {n a c:Int}:within n a c=true<->a<=n/\n<=c:=by simp [within]
def Span.is (s:Span) (low high wide:Int):Bool:=decide (low<=s.lo)&&decide (s.lo<=s.hi)&&decide (s.hi<=high)&&decide (s.hi - s.lo<=wide)
theorem Span.b0d {s:Span} {a c e:Int}:s.is a c e=true<->a<=s.lo/\s.lo<=s.hi/\s.hi<=c/\s.hi - s.lo<=e:=by
 simp only [Span.is,Bool.and_eq_true,decide_eq_true_eq,and_assoc]
def Span.has (s:Span) (n:Int):Prop:=s.lo<=n/\n<=s.hi
def Day.ok (x:Day):Bool:=within x.plain 0 2&&within x.full 0 2&&within x.needs 0 3
def Book.a1f (b:Book) (n:Int):Bool:=within n 0 (b.singers.length - 1)
def Book.a2O (b:Book) (n:Int):Bool:=within n 0 (b.days.length - 1)
def Book.a6o (b:Book) (x:Rest):Bool:=b.a2O x.day&&b.a1f x.singer
def Book.a3z (b:Book) (x:Sign):Bool:=b.a1f x.singer&&b.a2O x.day&&within x.left (-150) 30&&within x.err 0 3
def Book.valid (b:Book):Bool :=
 (within b.singers.length 1 3&&within b.days.length 1 5&&decide ((b.rests.length:Int)<=6)&&decide ((b.signs.length:Int)<=4))&&b.singers.all (·.is 0 30 2)&&(b.c0.is 0 6 1&&b.c1.is 0 6 1&&b.c2.is 0 6 1) &&
 b.days.all Day.ok&&b.rests.all b.a6o&&b.signs.all b.a3z
structure Sane (b:Book):Prop where
 s1:1<=b.singers.length
 s3:b.singers.length<=3
 d1:1<=b.days.length
 d5:b.days.length<=5
 r6:b.rests.length<=6
 g4:b.signs.length<=5
 sp:∀ s∈b.singers,0<=s.lo/\s.lo<=s.hi/\s.hi<=30/\s.hi - s.lo<=2
 k0:0<=b.c0.lo/\b.c0.lo<=b.c0.hi/\b.c0.hi<=6/\b.c0.hi - b.c0.lo<=1
 k1:0<=b.c1.lo/\b.c1.lo<=b.c1.hi/\b.c1.hi<=6/\b.c1.hi - b.c1.lo<=1
 k2:0<=b.c2.lo/\b.c2.lo<=b.c2.hi/\b.c2.hi<=6/\b.c2.hi - b.c2.lo<=1
 dy:∀ x∈b.days,(0<=x.plain/\x.plain<=2)/\(0<=x.full/\x.full<=2)/\(0<=x.needs/\x.needs<=3)
 rs:∀ x∈b.rests,(0<=x.day/\x.day<b.days.length)/\(0<=x.singer/\x.singer<b.singers.length)
 sg:∀ x∈b.signs,(0<=x.singer/\x.singer<b.singers.length)/\(0<=x.day/\x.day<b.days.length)/\(-150<=x.left/\x.left<=30)/\(0<=x.err/\x.err<=3)
theorem a8w {b:Book}:b.valid=true<->Sane b/\b.signs.length<=4:=by
 simp only [Book.valid,Bool.and_eq_true,within_iff,decide_eq_true_eq,List.all_eq_true,Span.b0d,Day.ok,Book.a6o,Book.a3z,Book.a1f,Book.a2O]
 constructor
 ·rintro ⟨⟨⟨⟨⟨⟨⟨⟨h1,h2⟩,h3⟩,h4⟩,h5⟩,⟨h6,h7⟩,h8⟩,h9⟩,h10⟩,h11⟩
  refine ⟨⟨by omega,by omega,by omega,by omega,by omega,by omega,h5,h6,h7,h8,fun x hx=>?_,fun x hx=>?_,fun x hx=>?_⟩,by omega⟩
  ·have:=h9 x hx;omega
  ·have:=h10 x hx;omega
  ·have:=h11 x hx;omega
 ·rintro ⟨h,hg⟩
  refine ⟨⟨⟨⟨⟨⟨⟨⟨?_,?_⟩,?_⟩,?_⟩,h.sp⟩,⟨h.k0,h.k1⟩,h.k2⟩,fun x hx=>?_⟩,fun x hx=>?_⟩,fun x hx=>?_⟩
  ·have:=h.s1;have:=h.s3;omega
  ·have:=h.d1;have:=h.d5;omega
  ·have:=h.r6;omega
  ·omega
  ·have:=h.dy x hx;omega
  ·have:=h.rs x hx;omega
  ·have:=h.sg x hx;omega
theorem a2n {b:Book}:(b.valid=true->Sane b)/\(b.valid=true->b.signs.length<=4):=⟨fun h=>(a8w.1 h).1,fun h=>(a8w.1 h).2⟩
/-! ### What is left -/
structure Cost where
 p:Int
 f:Int
 n:Int
 deriving DecidableEq
def Day.after (x:Day) (c:Cost) (rest:Bool) (now:Int):Int:=if rest then now else now - x.plain*c.p - x.full*c.f
def nowAt (l:List Day) (c:Cost) (s:Int) (r:Nat->Bool):Nat->Int
 | 0=>s
 | d+1=>match l[d]? with
  | some x=>min s (x.after c (r d) (nowAt l c s r d)+c.n)
  | none=>nowAt l c s r d
def a2B (l:List Day) (c:Cost) (s:Int) (r:Nat->Bool) (d:Nat):Int:=match l[d]? with
 | some x=>x.after c (r d) (nowAt l c s r d)
 | none=>nowAt l c s r d
theorem b6H {l:List Day} {c:Cost} {s:Int} {r:Nat->Bool} {d:Nat} (h:d<l.length):nowAt l c s r (d+1)=min s (a2B l c s r d+c.n):=by
 simp only [nowAt,a2B,List.getElem?_eq_getElem h]
structure Mild (l:List Day) (c:Cost):Prop where
 p:0<=c.p
 f:0<=c.f
 d:∀ x∈l,0<=x.plain/\0<=x.full
theorem b1f {l:List Day} {c:Cost} {s:Int} {r:Nat->Bool}:∀ d,nowAt l c s r d<=s
 | 0=>Int.le_refl _
 | d+1=>by
  have ih:=b1f (l:=l) (c:=c) (s:=s) (r:=r) d
  simp only [nowAt]
  cases l[d]? with
  | none=>exact ih
  | some x=>exact Int.min_le_left _ _
theorem b3i {l:List Day} {c:Cost} (hm:Mild l c) {s:Int} {r:Nat->Bool} (d:Nat):a2B l c s r d<=s:=by
 have:=b1f (l:=l) (c:=c) (s:=s) (r:=r) d
 simp only [a2B]
 cases hd:l[d]? with
 | none=>exact this
 | some x =>
  have h1:=Int.mul_nonneg (hm.d x (List.mem_of_getElem? hd)).1 hm.p
  have h2:=Int.mul_nonneg (hm.d x (List.mem_of_getElem? hd)).2 hm.f
  simp only [Day.after]
  cases r d<;>simp<;>omega
theorem b1e {b:Book} (hs:Sane b) {c:Cost} (h0:b.c0.has c.p) (h1:b.c1.has c.f) (h2:b.c2.has c.n) {s:Int} (hp:0<=s) {r:Nat->Bool}:∀ d:Nat, -(24*(d:Int))<=nowAt b.days c s r d
 | 0=>by simpa [nowAt] using hp
 | d+1=>by
  have ih:=b1e hs h0 h1 h2 hp (r:=r) d
  simp only [nowAt]
  cases hd:b.days[d]? with
  | none=>simp only;omega
  | some x =>
   have:=hs.dy x (List.mem_of_getElem? hd)
   have k0:=hs.k0;have k1:=hs.k1;have k2:=hs.k2
   simp only [Span.has] at h0 h1 h2
   have m1:x.plain*c.p<=2*6:=Int.mul_le_mul (by omega) (by omega) (by omega) (by omega)
   have m2:x.full*c.f<=2*6:=Int.mul_le_mul (by omega) (by omega) (by omega) (by omega)
   simp only [Day.after]
   cases r d<;>simp only [Bool.false_eq_true,if_false,if_true]<;>omega
theorem b3h {b:Book} (hs:Sane b) {c:Cost} (h0:b.c0.has c.p) (h1:b.c1.has c.f) (h2:b.c2.has c.n) {s:Int} (hp:0<=s) {r:Nat->Bool} (d:Nat) : -(24*((d:Int)+1))<=a2B b.days c s r d:=by
 have ih:=b1e hs h0 h1 h2 hp (r:=r) d
 simp only [a2B]
 cases hd:b.days[d]? with
 | none=>simp only;omega
 | some x =>
  have:=hs.dy x (List.mem_of_getElem? hd)
  have k0:=hs.k0;have k1:=hs.k1;have k2:=hs.k2
  simp only [Span.has] at h0 h1 h2
  have m1:x.plain*c.p<=2*6:=Int.mul_le_mul (by omega) (by omega) (by omega) (by omega)
  have m2:x.full*c.f<=2*6:=Int.mul_le_mul (by omega) (by omega) (by omega) (by omega)
  simp only [Day.after]
  cases r d<;>simp only [Bool.false_eq_true,if_false,if_true]<;>omega
/-! ### Rests, signs, ways -/
def a2Y (l:List Rest) (singer:Int) (d:Nat):Bool:=l.any fun x=>decide (x.day=d)&&decide (x.singer=singer)
def upto (lo hi:Int):List Int:=(List.range (hi - lo+1).toNat).map fun (k:Nat)=>lo+k
theorem b4F {lo hi n:Int}:n∈upto lo hi<->lo<=n/\n<=hi:=by
 simp only [upto,List.mem_map,List.mem_range]
 constructor
 ·rintro ⟨k,hk,rfl⟩;omega
 ·intro h;exact ⟨(n - lo).toNat,by omega,by omega⟩
def Book.fair (b:Book) (c:Cost) (i:Int) (s:Int) (x:Sign):Bool:=within (x.left - a2B b.days c s (a2Y b.rests i) x.day.toNat) (-x.err) x.err
def Book.rightFrom (b:Book) (c:Cost) (i:Int) (s:Int) (but:Int->Bool):Nat->List Sign->Bool
 | _,[]=>true
 | k,x::l=>!(decide (x.singer=i)&&!but k&&!b.fair c i s x)&&b.rightFrom c i s but (k+1) l
def Book.right (b:Book) (c:Cost) (i:Int) (s:Int) (but:Int->Bool):Bool:=b.rightFrom c i s but 0 b.signs
theorem a9E {b:Book} {c:Cost} {i s:Int} {but:Int->Bool}:∀ {l:List Sign} {k:Nat},b.rightFrom c i s but k l=true<->∀ (j:Nat) x,l[j]?=some x->x.singer=i->but ((k+j:Nat):Int)=false->b.fair c i s x=true
 | [],k=>by simp [Book.rightFrom]
 | y::l,k=>by
  simp only [Book.rightFrom,Bool.and_eq_true,a9E (l:=l) (k:=k+1)]
  constructor
  ·rintro ⟨h1,h2⟩ j x hx hi hb
   cases j with
   | zero =>
    simp only [List.getElem?_cons_zero,Option.some.injEq] at hx
    subst hx
    simp only [Nat.add_zero] at hb
    simpa [hi,hb] using h1
   | succ j=>exact h2 j x (by simpa using hx) hi (by rw [show k+1+j=k+(j+1) by omega];exact hb)
  ·intro h
   refine ⟨?_,fun j x hx hi hb=>h (j+1) x (by simpa using hx) hi (by rw [show k+(j+1)=k+1+j by omega];exact hb)⟩
   by_cases hi:y.singer=i
   ·cases hb:but k with
    | true=>simp
    | false=>simp [h 0 y rfl hi (by simpa using hb)]
   ·simp [hi]
theorem b8e {b:Book} {c:Cost} {i s:Int} {but:Int->Bool}:b.right c i s but=true<->∀ (j:Nat) x,b.signs[j]?=some x->x.singer=i->but j=false->b.fair c i s x=true:=by
 rw [Book.right,a9E];simp only [Nat.zero_add]
def Book.a1B (b:Book) (c:Cost) (i:Nat) (but:Int->Bool):List Int:=match b.singers[i]? with
 | some s=>(upto s.lo s.hi).filter fun n=>b.right c i n but
 | none=>[]
theorem a9C {b:Book} {c:Cost} {i:Nat} {but:Int->Bool} {s:Span} (hs:b.singers[i]?=some s) {n:Int}:n∈b.a1B c i but<->s.has n/\b.right c i n but=true:=by
 simp only [Book.a1B,hs,List.mem_filter,b4F,Span.has]
def Book.a8a (b:Book):List Cost:=(upto b.c0.lo b.c0.hi).flatMap fun p=>(upto b.c1.lo b.c1.hi).flatMap fun f=>(upto b.c2.lo b.c2.hi).map fun n=>⟨p,f,n⟩
theorem b2c {b:Book} {c:Cost}:c∈b.a8a<->b.c0.has c.p/\b.c1.has c.f/\b.c2.has c.n:=by
 simp only [Book.a8a,List.mem_flatMap,List.mem_map,b4F,Span.has]
 constructor
 ·rintro ⟨p,hp,f,hf,n,hn,rfl⟩;exact ⟨hp,hf,hn⟩
 ·rintro ⟨h0,h1,h2⟩;exact ⟨c.p,h0,c.f,h1,c.n,h2,rfl⟩
abbrev Truth:=Cost × List (List Int)
def Book.strong (b:Book) (c:Cost) (but:Int->Bool):List (List Int):=(List.range b.singers.length).map fun i=>b.a1B c i but
def Book.can (b:Book) (c:Cost) (but:Int->Bool):Bool:=(b.strong c but).all fun l=>!l.isEmpty
def Book.a3d (b:Book) (but:Int->Bool):List Truth:=(b.a8a.filter fun c=>b.can c but).map fun c=>(c,b.strong c but)
structure Way (b:Book) (but:Int->Bool) (c:Cost) (st:Nat->Int):Prop where
 c0:b.c0.has c.p
 c1:b.c1.has c.f
 c2:b.c2.has c.n
 str:∀ (i:Nat) s,b.singers[i]?=some s->s.has (st i)
 sg:∀ (j:Nat) x,b.signs[j]?=some x->but j=false->b.fair c x.singer (st x.singer.toNat) x=true
theorem Way.mem {b:Book} (hs:Sane b) {but:Int->Bool} {c:Cost} {st:Nat->Int} (w:Way b but c st) {i:Nat} (hi:i<b.singers.length):st i∈b.a1B c i but:=by
 rw [a9C (List.getElem?_eq_getElem hi)]
 refine ⟨w.str i _ (List.getElem?_eq_getElem hi),b8e.2 fun j x hx hi' hb=>?_⟩
 have:=w.sg j x hx hb
 rw [hi'] at this
 simpa using this
theorem Way.truth {b:Book} (hs:Sane b) {but:Int->Bool} {c:Cost} {st:Nat->Int} (w:Way b but c st):(c,b.strong c but)∈b.a3d but:=by
 simp only [Book.a3d,List.mem_map,List.mem_filter]
 refine ⟨c,⟨b2c.2 ⟨w.c0,w.c1,w.c2⟩,?_⟩,rfl⟩
 simp only [Book.can,Book.strong,List.all_eq_true,List.mem_map,List.mem_range]
 rintro l ⟨i,hi,rfl⟩
 have:=w.mem hs hi
 cases he:b.a1B c i but with
 | nil=>rw [he] at this;cases this
 | cons x l=>rfl
theorem d1v {b:Book} (hs:Sane b) {but:Int->Bool} {t:Truth} (ht:t∈b.a3d but) {i:Nat} (hi:i<b.singers.length) {n:Int} (hn:n∈b.a1B t.1 i but):∃ st,Way b but t.1 st/\st i=n:=by
 simp only [Book.a3d,List.mem_map,List.mem_filter] at ht
 obtain ⟨c,⟨hc,hcan⟩,rfl⟩:=ht
 simp only [Book.can,Book.strong,List.all_eq_true,List.mem_map,List.mem_range] at hcan
 have hex:∀ k:Nat,∃ m:Int,k<b.singers.length->m∈b.a1B c k but:=fun k=>by
  by_cases hk:k<b.singers.length
  ·have:=hcan _ ⟨k,hk,rfl⟩
   cases he:b.a1B c k but with
   | nil=>rw [he] at this;cases this
   | cons x l=>exact ⟨x,fun _=>by simp⟩
  ·exact ⟨0,fun h=>absurd h hk⟩
 let st:Nat->Int:=fun k=>if k=i then n else Classical.choose (hex k)
 have hst:∀ k,k<b.singers.length->st k∈b.a1B c k but:=fun k hk=>by
  by_cases e:k=i
  ·subst e;simpa [st] using hn
  ·simpa [st,e] using Classical.choose_spec (hex k) hk
 obtain ⟨h0,h1,h2⟩:=b2c.1 hc
 refine ⟨st,⟨h0,h1,h2,fun k s hk=>?_,fun j x hx hb=>?_⟩,by simp [st]⟩
 ·have hlt:=(List.getElem?_eq_some_iff.1 hk).1
  exact ((a9C hk).1 (hst k hlt)).1
 ·have hx':=hs.sg x (List.mem_of_getElem? hx)
  have hlt:x.singer.toNat<b.singers.length:=by omega
  have:=((a9C (List.getElem?_eq_getElem hlt)).1 (hst _ hlt)).2
  have h3:=b8e.1 this j x hx (by omega) hb
  rw [show ((x.singer.toNat:Nat):Int)=x.singer by omega] at h3
  exact h3
theorem d1M {b:Book} (hs:Sane b) {but:Int->Bool}:b.a3d but≠[]<->∃ c st,Way b but c st:=by
 constructor
 ·intro h
  obtain ⟨t,ht⟩:=List.exists_mem_of_ne_nil _ h
  have ht':=ht
  simp only [Book.a3d,List.mem_map,List.mem_filter] at ht'
  obtain ⟨c,⟨hc,hcan⟩,rfl⟩:=ht'
  simp only [Book.can,Book.strong,List.all_eq_true,List.mem_map,List.mem_range] at hcan
  have:=hcan _ ⟨0,hs.s1,rfl⟩
  cases he:b.a1B c 0 but with
  | nil=>rw [he] at this;cases this
  | cons x l =>
   obtain ⟨st,w, -⟩:=d1v hs ht hs.s1 (n:=x) (by show x∈b.a1B c 0 but;rw [he];simp)
   exact ⟨_,st,w⟩
 ·rintro ⟨c,st,w⟩ e
  have:=w.truth hs
  rw [e] at this;cases this
end Go.Pm.St
namespace Go.Pm.St
open Ac
def Span.c (x:Span):List C:=[ci x.lo,ci x.hi]
section
variable (x:Span)
@[go_sem] theorem Span.c_0:x.c[0]?=some (ci x.lo):=nrfl rfl
@[go_sem] theorem Span.c_1:x.c[1]?=some (ci x.hi):=nrfl rfl
@[go_sem] theorem Span.c_un:x.c.map a0r=x.c:=nrfl rfl
@[go_sem] theorem Span.b1w:C.a0v x.c=true:=nrfl rfl
@[go_sem] theorem Span.b3L:a0R x.c 0 2=some x.c:=nrfl rfl
@[go_sem] theorem Span.b3N:x.c.length=2:=nrfl rfl
@[go_sem] theorem Span.b0w (n:Nat):C.a0G n x.c=true:=a0C n _ rfl
@[go_sem] theorem Span.b3O (z0 z1:C):a1H [z0,z1] 0 x.c=x.c:=nrfl rfl
@[go_sem] theorem Span.b3M (b:Nat) (h:List Obj):frzL b h 128 x.c=some x.c:=by simp only [Span.c,go_sem]
end
def Day.c (x:Day):List C:=[ci x.plain,ci x.full,ci x.needs]
section
variable (x:Day)
@[go_sem] theorem Day.c_0:x.c[0]?=some (ci x.plain):=nrfl rfl
@[go_sem] theorem Day.c_1:x.c[1]?=some (ci x.full):=nrfl rfl
@[go_sem] theorem Day.c_2:x.c[2]?=some (ci x.needs):=nrfl rfl
@[go_sem] theorem Day.c_un:x.c.map a0r=x.c:=nrfl rfl
@[go_sem] theorem Day.b1w:C.a0v x.c=true:=nrfl rfl
@[go_sem] theorem Day.b3L:a0R x.c 0 3=some x.c:=nrfl rfl
@[go_sem] theorem Day.b3N:x.c.length=3:=nrfl rfl
@[go_sem] theorem Day.b0w (n:Nat):C.a0G n x.c=true:=a0C n _ rfl
@[go_sem] theorem Day.b3O (z0 z1 z2:C):a1H [z0,z1,z2] 0 x.c=x.c:=nrfl rfl
@[go_sem] theorem Day.b3M (b:Nat) (h:List Obj):frzL b h 128 x.c=some x.c:=by simp only [Day.c,go_sem]
end
def Rest.c (x:Rest):List C:=[ci x.day,ci x.singer]
section
variable (x:Rest)
@[go_sem] theorem Rest.c_0:x.c[0]?=some (ci x.day):=nrfl rfl
@[go_sem] theorem Rest.c_1:x.c[1]?=some (ci x.singer):=nrfl rfl
@[go_sem] theorem Rest.c_un:x.c.map a0r=x.c:=nrfl rfl
@[go_sem] theorem Rest.b1w:C.a0v x.c=true:=nrfl rfl
@[go_sem] theorem Rest.b3L:a0R x.c 0 2=some x.c:=nrfl rfl
@[go_sem] theorem Rest.b3N:x.c.length=2:=nrfl rfl
@[go_sem] theorem Rest.b0w (n:Nat):C.a0G n x.c=true:=a0C n _ rfl
@[go_sem] theorem Rest.b3O (z0 z1:C):a1H [z0,z1] 0 x.c=x.c:=nrfl rfl
@[go_sem] theorem Rest.b3M (b:Nat) (h:List Obj):frzL b h 128 x.c=some x.c:=by simp only [Rest.c,go_sem]
end
def Sign.c (x:Sign):List C:=[ci x.singer,ci x.day,ci x.left,ci x.err]
section
variable (x:Sign)
@[go_sem] theorem Sign.c_0:x.c[0]?=some (ci x.singer):=nrfl rfl
@[go_sem] theorem Sign.c_1:x.c[1]?=some (ci x.day):=nrfl rfl
@[go_sem] theorem Sign.c_2:x.c[2]?=some (ci x.left):=nrfl rfl
@[go_sem] theorem Sign.c_3:x.c[3]?=some (ci x.err):=nrfl rfl
@[go_sem] theorem Sign.c_un:x.c.map a0r=x.c:=nrfl rfl
@[go_sem] theorem Sign.b1w:C.a0v x.c=true:=nrfl rfl
@[go_sem] theorem Sign.b3L:a0R x.c 0 4=some x.c:=nrfl rfl
@[go_sem] theorem Sign.b3N:x.c.length=4:=nrfl rfl
@[go_sem] theorem Sign.b0w (n:Nat):C.a0G n x.c=true:=a0C n _ rfl
@[go_sem] theorem Sign.b3O (z0 z1 z2 z3:C):a1H [z0,z1,z2,z3] 0 x.c=x.c:=nrfl rfl
@[go_sem] theorem Sign.b3M (b:Nat) (h:List Obj):frzL b h 128 x.c=some x.c:=by simp only [Sign.c,go_sem]
end
def Book.c (x:Book):List C:=[.sl x.ks 2 (x.singers.map Span.c),ci x.c0.lo,ci x.c0.hi,ci x.c1.lo,ci x.c1.hi,ci x.c2.lo,ci x.c2.hi,.sl x.kd 3 (x.days.map Day.c),.sl x.kr 2 (x.rests.map Rest.c),.sl x.kg 4 (x.signs.map Sign.c)]
section
variable (x:Book)
@[go_sem] theorem Book.c_0:x.c[0]?=some (.sl x.ks 2 (x.singers.map Span.c)):=nrfl rfl
@[go_sem] theorem Book.c_1:x.c[1]?=some (ci x.c0.lo):=nrfl rfl
@[go_sem] theorem Book.c_2:x.c[2]?=some (ci x.c0.hi):=nrfl rfl
@[go_sem] theorem Book.c_3:x.c[3]?=some (ci x.c1.lo):=nrfl rfl
@[go_sem] theorem Book.c_4:x.c[4]?=some (ci x.c1.hi):=nrfl rfl
@[go_sem] theorem Book.c_5:x.c[5]?=some (ci x.c2.lo):=nrfl rfl
@[go_sem] theorem Book.c_6:x.c[6]?=some (ci x.c2.hi):=nrfl rfl
@[go_sem] theorem Book.c_7:x.c[7]?=some (.sl x.kd 3 (x.days.map Day.c)):=nrfl rfl
@[go_sem] theorem Book.c_8:x.c[8]?=some (.sl x.kr 2 (x.rests.map Rest.c)):=nrfl rfl
@[go_sem] theorem Book.c_9:x.c[9]?=some (.sl x.kg 4 (x.signs.map Sign.c)):=nrfl rfl
@[go_sem] theorem Book.d0Y:a0R x.c 1 2=some [ci x.c0.lo,ci x.c0.hi]:=nrfl rfl
@[go_sem] theorem Book.d1a:a0R x.c 3 2=some [ci x.c1.lo,ci x.c1.hi]:=nrfl rfl
@[go_sem] theorem Book.d1b:a0R x.c 5 2=some [ci x.c2.lo,ci x.c2.hi]:=nrfl rfl
@[go_sem] theorem Book.d0Z:a0R x.c 1 6=some [ci x.c0.lo,ci x.c0.hi,ci x.c1.lo,ci x.c1.hi,ci x.c2.lo,ci x.c2.hi]:=nrfl rfl
@[go_sem] theorem Book.c_un:x.c.map a0r=x.c:=nrfl rfl
@[go_sem] theorem Book.b1w:C.a0v x.c=true:=nrfl rfl
@[go_sem] theorem Book.b3L:a0R x.c 0 10=some x.c:=nrfl rfl
@[go_sem] theorem Book.b3N:x.c.length=10:=nrfl rfl
@[go_sem] theorem Book.b0w (n:Nat):C.a0G n x.c=true:=a0C n _ rfl
@[go_sem] theorem Book.b3O (z0 z1 z2 z3 z4 z5 z6 z7 z8 z9:C):a1H [z0,z1,z2,z3,z4,z5,z6,z7,z8,z9] 0 x.c=x.c:=nrfl rfl
@[go_sem] theorem Book.b3M (b:Nat) (h:List Obj):frzL b h 128 x.c=some x.c:=by simp only [Book.c,go_sem]
end
class Book.Fits (b:Book):Prop where
 s:b.singers.length<=9223372036854775807
 d:b.days.length<=9223372036854775807
 r:b.rests.length<=9223372036854775807
 g:b.signs.length<=9223372036854775807
section
variable {Γ:Env} [P04 Γ]
@[go_sem] theorem c8T (a b c:Int):K Γ (.fn 150) [vi a,vi b,vi c] []=some (vb (within a b c),[]):=by
 rw [K_fn P04.f150 _ _ rfl]
 simp only [go_sem,simprocAttr,a5Q]
 repeat' (first|((first|refine brY ?_|refine brN ?_|refine brA ?_|refine brD ?_|refine brF ?_|((first|apply a0k|apply a0j);(· intro h;simp only [go_sem,simprocAttr,a0p h];exact rfl)));(try simp only [go_sem,simprocAttr]))|((first|apply a0e|apply d7E|apply a0a)<;>intro h<;>(try simp only [go_sem,simprocAttr,h])))
 all_goals (simp_all [within];try (intros;omega))
theorem b1d (s:Span) (high wide:Int) (hh:high<=1000):K Γ (.fn 151) [.agg [ci s.lo,ci s.hi],vi high,vi wide] []=some (vb (s.is 0 high wide),[]):=by
 rw [K_fn P04.f151 _ _ rfl]
 simp only [go_sem,simprocAttr,a5O]
 repeat' (first|((first|refine brY ?_|refine brN ?_|refine brA ?_|refine brD ?_|refine brF ?_|((first|apply a0k|apply a0j);(· intro h;simp only [go_sem,simprocAttr,a0p h];exact rfl)));(try simp only [go_sem,simprocAttr]))|((first|apply a0e|apply d7E|apply a0a)<;>intro h<;>(try simp only [go_sem,simprocAttr,h])))
 by_cases h:0<=s.lo/\s.lo<=s.hi/\s.hi<=high
 ·rw [wrap_i64 (by omega) (by omega)];rfl
 ·simp only [Span.is]
  have e:(decide (0<=s.lo)&&decide (s.lo<=s.hi)&&decide (s.hi<=high))=false:=by
   rw [Bool.eq_false_iff];intro e;simp only [Bool.and_eq_true,decide_eq_true_eq] at e;omega
  simp only [e,Bool.false_and]
@[go_sem] theorem c6A (s:Span):K Γ (.fn 151) [.agg s.c,vi 30,vi 2] []=some (vb (s.is 0 30 2),[]):=b1d s _ _ (by decide)
@[go_sem] theorem c6B (s:Span):K Γ (.fn 151) [.agg s.c,vi 6,vi 1] []=some (vb (s.is 0 6 1),[]):=b1d s _ _ (by decide)
@[go_sem] theorem c6C (s:Span):K Γ (.fn 151) [.agg [ci s.lo,ci s.hi],vi 6,vi 1] []=some (vb (s.is 0 6 1),[]):=b1d s _ _ (by decide)
@[go_sem] theorem c3K (b:Book) [hd:b.Fits] (n:Int):K Γ (.fn 153) [.agg b.c,vi n] []=some (vb (b.a1f n),[]):=by
 have hi:IntKind.i64.wrap ((b.singers.length:Int) - 1)=b.singers.length - 1:=wrap_i64 (by have:=hd.s;omega) (by have:=hd.s;omega)
 rw [K_fn P04.f153 _ _ rfl]
 simp only [go_sem,simprocAttr,a5b,hi]
 rfl
@[go_sem] theorem c9M (b:Book) [hd:b.Fits] (n:Int):K Γ (.fn 152) [.agg b.c,vi n] []=some (vb (b.a2O n),[]):=by
 have hi:IntKind.i64.wrap ((b.days.length:Int) - 1)=b.days.length - 1:=wrap_i64 (by have:=hd.d;omega) (by have:=hd.d;omega)
 rw [K_fn P04.f152 _ _ rfl]
 simp only [go_sem,simprocAttr,a6G,hi]
 rfl
@[go_sem] theorem c8t (b:Book) [hd:b.Fits] (x:Sign):K Γ (.fn 154) [.agg b.c,.agg x.c] []=some (vb (b.a3z x),[]):=by
 rw [K_fn P04.f154 _ _ rfl]
 simp only [go_sem,simprocAttr,a5N]
 repeat' (first|((first|refine brY ?_|refine brN ?_|refine brA ?_|refine brD ?_|refine brF ?_|((first|apply a0k|apply a0j);(· intro h;simp only [go_sem,simprocAttr,a0p h];exact rfl)));(try simp only [go_sem,simprocAttr]))|((first|apply a0e|apply d7E|apply a0a)<;>intro h<;>(try simp only [go_sem,simprocAttr,h])))
 all_goals simp_all [Book.a3z]
end
end Go.Pm.St
namespace Go.Pm.St
open Ac
theorem a7i {α:Type} (p:α->Bool):∀ (l:List α) (b:Bool),l.foldl (fun a x=>a&&p x) b=(b&&l.all p)
 | [],b=>by simp
 | x::l,b=>by simp [a7i p l,Bool.and_assoc]
def Span.ok30 (s:Span):Bool:=s.is 0 30 2
section
variable {Γ:Env} [P04 Γ]
@[go_sem] theorem c8c (b:Book) [hb:b.Fits] (ok:Bool) {β:Type} (Q:Ex->St->Option β):E Γ a8n ⟨[(1,.sc (.ptr 0 0)),(3,vb ok),(37,.sc (.sl b.ks 2 (b.singers.map Span.c))),(38,vi b.singers.length),(39,vi 0)],[.var b.c]⟩ Q =
 Q (.exit 0) ⟨[(1,.sc (.ptr 0 0)),(3,vb (ok&&b.singers.all Span.ok30)),(37,.sc (.sl b.ks 2 (b.singers.map Span.c))),(38,vi b.singers.length),(39,vi b.singers.length),(40,vb false)],[.var b.c]⟩:=by
 refine (a6g (fun i ok=>⟨[(1,.sc (.ptr 0 0)),(3,vb ok),(37,.sc (.sl b.ks 2 (b.singers.map Span.c))),(38,vi b.singers.length),(39,vi i)],[.var b.c]⟩) b.singers (fun a x=>a&&Span.ok30 x)
  (fun ok=>(.exit 0,⟨[(1,.sc (.ptr 0 0)),(3,vb ok),(37,.sc (.sl b.ks 2 (b.singers.map Span.c))),(38,vi b.singers.length),(39,vi b.singers.length),(40,vb false)],[.var b.c]⟩)) Q (fun i ok x hx=>?_) (fun ok=>?_) ok).trans ?_
 ·have hlt:i<b.singers.length:=(List.getElem?_eq_some_iff.1 hx).1
  have hd:=hb.s
  have hi:IntKind.i64.wrap ((i:Int)+1)=i+1:=wrap_i64 (by omega) (by omega)
  simp only [go_sem,simprocAttr,a6x]
  repeat' (first|((first|refine brY ?_|refine brN ?_|refine brA ?_|refine brD ?_|refine brF ?_|((first|apply a0k|apply a0j);(· intro h;simp only [go_sem,simprocAttr,a0p h,hx,hi];exact rfl)));(try simp only [go_sem,simprocAttr,hx,hi]))|((first|apply a0e|apply d7E|apply a0a)<;>intro h<;>(try simp only [go_sem,simprocAttr,h,hx,hi])))
  all_goals (simp_all [Span.ok30,Book.a6o,Bool.and_assoc];done)
 ·simp only [go_sem,simprocAttr,a6x]
 ·rw [a7i]
@[go_sem] theorem c8d (b:Book) [hb:b.Fits] (ok:Bool) {β:Type} (Q:Ex->St->Option β):E Γ a3f ⟨[(1,.sc (.ptr 0 0)),(3,vb ok),(50,.agg [ci b.c0.lo,ci b.c0.hi,ci b.c1.lo,ci b.c1.hi,ci b.c2.lo,ci b.c2.hi]),(51,vi 0)],[.var b.c]⟩ Q =
 Q (.exit 2) ⟨[(1,.sc (.ptr 0 0)),(3,vb (ok&&b.c0.is 0 6 1&&b.c1.is 0 6 1&&b.c2.is 0 6 1)),(50,.agg [ci b.c0.lo,ci b.c0.hi,ci b.c1.lo,ci b.c1.hi,ci b.c2.lo,ci b.c2.hi]),(51,vi 3),(52,vb false)],[.var b.c]⟩:=by
 simp only [go_sem,simprocAttr,a3f,a3T,a1J]
 repeat' (first|((first|refine brY ?_|refine brN ?_|refine brA ?_|refine brD ?_|refine brF ?_|((first|apply a0k|apply a0j);(· intro h;simp only [go_sem,simprocAttr,a0p h,a3f,a3T,a1J];exact rfl)));(try simp only [go_sem,simprocAttr,a3f,a3T,a1J]))|((first|apply a0e|apply d7E|apply a0a)<;>intro h<;>(try simp only [go_sem,simprocAttr,h,a3f,a3T,a1J])))
@[go_sem] theorem c8e (b:Book) [hb:b.Fits] (ok:Bool) {β:Type} (Q:Ex->St->Option β):E Γ a8o ⟨[(1,.sc (.ptr 0 0)),(3,vb ok),(61,.sc (.sl b.kd 3 (b.days.map Day.c))),(62,vi b.days.length),(63,vi 0)],[.var b.c]⟩ Q =
 Q (.exit 4) ⟨[(1,.sc (.ptr 0 0)),(3,vb (ok&&b.days.all Day.ok)),(61,.sc (.sl b.kd 3 (b.days.map Day.c))),(62,vi b.days.length),(63,vi b.days.length),(64,vb false)],[.var b.c]⟩:=by
 refine (a6g (fun i ok=>⟨[(1,.sc (.ptr 0 0)),(3,vb ok),(61,.sc (.sl b.kd 3 (b.days.map Day.c))),(62,vi b.days.length),(63,vi i)],[.var b.c]⟩) b.days (fun a x=>a&&Day.ok x)
  (fun ok=>(.exit 4,⟨[(1,.sc (.ptr 0 0)),(3,vb ok),(61,.sc (.sl b.kd 3 (b.days.map Day.c))),(62,vi b.days.length),(63,vi b.days.length),(64,vb false)],[.var b.c]⟩)) Q (fun i ok x hx=>?_) (fun ok=>?_) ok).trans ?_
 ·have hlt:i<b.days.length:=(List.getElem?_eq_some_iff.1 hx).1
  have hd:=hb.d
  have hi:IntKind.i64.wrap ((i:Int)+1)=i+1:=wrap_i64 (by omega) (by omega)
  simp only [go_sem,simprocAttr,a6y]
  repeat' (first|((first|refine brY ?_|refine brN ?_|refine brA ?_|refine brD ?_|refine brF ?_|((first|apply a0k|apply a0j);(· intro h;simp only [go_sem,simprocAttr,a0p h,hx,hi];exact rfl)));(try simp only [go_sem,simprocAttr,hx,hi]))|((first|apply a0e|apply d7E|apply a0a)<;>intro h<;>(try simp only [go_sem,simprocAttr,h,hx,hi])))
  all_goals (simp_all [Day.ok,Book.a6o,Bool.and_assoc];done)
 ·simp only [go_sem,simprocAttr,a6y]
 ·rw [a7i]
@[go_sem] theorem c8f (b:Book) [hb:b.Fits] (ok:Bool) {β:Type} (Q:Ex->St->Option β):E Γ a8p ⟨[(1,.sc (.ptr 0 0)),(3,vb ok),(85,.sc (.sl b.kr 2 (b.rests.map Rest.c))),(86,vi b.rests.length),(87,vi 0)],[.var b.c]⟩ Q =
 Q (.exit 6) ⟨[(1,.sc (.ptr 0 0)),(3,vb (ok&&b.rests.all b.a6o)),(85,.sc (.sl b.kr 2 (b.rests.map Rest.c))),(86,vi b.rests.length),(87,vi b.rests.length),(88,vb false)],[.var b.c]⟩:=by
 refine (a6g (fun i ok=>⟨[(1,.sc (.ptr 0 0)),(3,vb ok),(85,.sc (.sl b.kr 2 (b.rests.map Rest.c))),(86,vi b.rests.length),(87,vi i)],[.var b.c]⟩) b.rests (fun a x=>a&&b.a6o x)
  (fun ok=>(.exit 6,⟨[(1,.sc (.ptr 0 0)),(3,vb ok),(85,.sc (.sl b.kr 2 (b.rests.map Rest.c))),(86,vi b.rests.length),(87,vi b.rests.length),(88,vb false)],[.var b.c]⟩)) Q (fun i ok x hx=>?_) (fun ok=>?_) ok).trans ?_
 ·have hlt:i<b.rests.length:=(List.getElem?_eq_some_iff.1 hx).1
  have hd:=hb.r
  have hi:IntKind.i64.wrap ((i:Int)+1)=i+1:=wrap_i64 (by omega) (by omega)
  simp only [go_sem,simprocAttr,a6z]
  repeat' (first|((first|refine brY ?_|refine brN ?_|refine brA ?_|refine brD ?_|refine brF ?_|((first|apply a0k|apply a0j);(· intro h;simp only [go_sem,simprocAttr,a0p h,hx,hi];exact rfl)));(try simp only [go_sem,simprocAttr,hx,hi]))|((first|apply a0e|apply d7E|apply a0a)<;>intro h<;>(try simp only [go_sem,simprocAttr,h,hx,hi])))
  all_goals (simp_all [Day.ok,Book.a6o,Bool.and_assoc];done)
 ·simp only [go_sem,simprocAttr,a6z]
 ·rw [a7i]
@[go_sem] theorem c8g (b:Book) [hb:b.Fits] (ok:Bool) {β:Type} (Q:Ex->St->Option β):E Γ a8q ⟨[(1,.sc (.ptr 0 0)),(3,vb ok),(106,.sc (.sl b.kg 4 (b.signs.map Sign.c))),(107,vi b.signs.length),(108,vi 0)],[.var b.c]⟩ Q =
 Q (.exit 8) ⟨[(1,.sc (.ptr 0 0)),(3,vb (ok&&b.signs.all b.a3z)),(106,.sc (.sl b.kg 4 (b.signs.map Sign.c))),(107,vi b.signs.length),(108,vi b.signs.length),(109,vb false)],[.var b.c]⟩:=by
 refine (a6g (fun i ok=>⟨[(1,.sc (.ptr 0 0)),(3,vb ok),(106,.sc (.sl b.kg 4 (b.signs.map Sign.c))),(107,vi b.signs.length),(108,vi i)],[.var b.c]⟩) b.signs (fun a x=>a&&b.a3z x)
  (fun ok=>(.exit 8,⟨[(1,.sc (.ptr 0 0)),(3,vb ok),(106,.sc (.sl b.kg 4 (b.signs.map Sign.c))),(107,vi b.signs.length),(108,vi b.signs.length),(109,vb false)],[.var b.c]⟩)) Q (fun i ok x hx=>?_) (fun ok=>?_) ok).trans ?_
 ·have hlt:i<b.signs.length:=(List.getElem?_eq_some_iff.1 hx).1
  have hd:=hb.g
  have hi:IntKind.i64.wrap ((i:Int)+1)=i+1:=wrap_i64 (by omega) (by omega)
  simp only [go_sem,simprocAttr,a6A]
  repeat' (first|((first|refine brY ?_|refine brN ?_|refine brA ?_|refine brD ?_|refine brF ?_|((first|apply a0k|apply a0j);(· intro h;simp only [go_sem,simprocAttr,a0p h,hx,hi];exact rfl)));(try simp only [go_sem,simprocAttr,hx,hi]))|((first|apply a0e|apply d7E|apply a0a)<;>intro h<;>(try simp only [go_sem,simprocAttr,h,hx,hi])))
  all_goals (simp_all [Day.ok,Book.a6o,Bool.and_assoc];done)
 ·simp only [go_sem,simprocAttr,a6A]
 ·rw [a7i]
@[go_sem] theorem c9C (b:Book) [hb:b.Fits]:K Γ (.fn 117) [.agg b.c] []=some (vi (if b.valid then 0 else 40),[]):=by
 have hv:b.valid=((within b.singers.length 1 3&&within b.days.length 1 5&&decide ((b.rests.length:Int)<=6)&&decide ((b.signs.length:Int)<=4))&&b.singers.all Span.ok30&&b.c0.is 0 6 1&&b.c1.is 0 6 1&&b.c2.is 0 6 1&&b.days.all Day.ok&&b.rests.all b.a6o&&b.signs.all b.a3z):=by
  simp only [Book.valid,Bool.and_assoc];rfl
 rw [K_fn P04.f117 _ _ rfl]
 simp only [go_sem,simprocAttr,a6w]
 repeat' (first|((first|refine brY ?_|refine brN ?_|refine brA ?_|refine brD ?_|refine brF ?_|((first|apply a0k|apply a0j);(· intro h;simp only [go_sem,simprocAttr,a0p h];exact rfl)));(try simp only [go_sem,simprocAttr]))|((first|apply a0e|apply d7E|apply a0a)<;>intro h<;>(try simp only [go_sem,simprocAttr,h])))
 all_goals first
  | (replace h:(!b.valid)=true:=(by rw [hv];exact h);rw [Bool.not_eq_true'] at h;rw [h];rfl)
  | (replace h:(!b.valid)=false:=(by rw [hv];exact h);rw [Bool.not_eq_false'] at h;rw [h];rfl)
end
end Go.Pm.St
namespace Go.Pm.St
open Ac
class G04 (Γ:Env):Prop where
 g3:Γ.glob 3=[ci (-1),ci (-1)]
 g4:Γ.glob 4=[.fn (.fn 199) [] [] [],.fn (.fn 200) [] [] []]
attribute [go_sem] G04.g3 G04.g4
def addR (g:List Int->Bool) (x:Rest):List Int->Bool:=if x.day = -1/\x.singer = -1 then g else fun ks=>g ks||decide (ks=[x.day,x.singer])
def a1M (f:List Int->Bool) (l:List Rest):List Int->Bool:=l.foldl addR f
section
variable {Γ:Env} [P04 Γ] [G04 Γ]
theorem c1y (k:SK) (l:List Rest) (hl:l.length<=1000000000000) (f:List Int->Bool) {β:Type} (Q:Ex->St->Option β) :
 E Γ a6H ⟨[(5,.sc (.map 0)),(19,.sc (.sl k 2 (l.map Rest.c))),(20,vi l.length),(21,vi 0)],[.set 2 f,.dead]⟩ Q =
 Q (.exit 2) ⟨[(5,.sc (.map 0)),(19,.sc (.sl k 2 (l.map Rest.c))),(20,vi l.length),(21,vi l.length),(22,vb false)],[.set 2 (a1M f l),.dead]⟩:=by
 refine (a6g (fun i g=>⟨[(5,.sc (.map 0)),(19,.sc (.sl k 2 (l.map Rest.c))),(20,vi l.length),(21,vi i)],[.set 2 g,.dead]⟩) l addR
  (fun g=>(.exit 2,⟨[(5,.sc (.map 0)),(19,.sc (.sl k 2 (l.map Rest.c))),(20,vi l.length),(21,vi l.length),(22,vb false)],[.set 2 g,.dead]⟩)) Q (fun i g x hx=>?_) (fun g=>?_) f).trans rfl
 ·have hlt:i<l.length:=(List.getElem?_eq_some_iff.1 hx).1
  have hi:IntKind.i64.wrap ((i:Int)+1)=i+1:=wrap_i64 (by omega) (by omega)
  by_cases h:x.day = -1/\x.singer = -1
  ·have h1:=decide_eq_true h.1
   have h2:=decide_eq_true h.2
   simp only [addR,if_pos h]
   (simp only [go_sem,simprocAttr,a1s,hx,hi,h1,h2];repeat' ((first|refine brY ?_|refine brN ?_|refine brA ?_|refine brD ?_|refine brF ?_);(try simp only [go_sem,simprocAttr,a1s,hx,hi,h1,h2])))
   rfl
  ·have h12:(decide (x.day = -1)&&decide (x.singer = -1))=false:=by
    rw [Bool.eq_false_iff];intro e;simp only [Bool.and_eq_true,decide_eq_true_eq] at e;exact h e
   simp only [addR,if_neg h]
   (simp only [go_sem,simprocAttr,a1s,hx,hi,h12];repeat' ((first|refine brY ?_|refine brN ?_|refine brA ?_|refine brD ?_|refine brF ?_);(try simp only [go_sem,simprocAttr,a1s,hx,hi,h12])))
   rfl
 ·simp only [go_sem,simprocAttr,a1s]
@[go_sem] theorem b2z (k:SK) (l:List Rest) (hl:l.length<=1000000000000) (f:List Int->Bool):K Γ (.fn 121) [.sc (.iset 2 f),.sc (.sl k 2 (l.map Rest.c))] []=some (.sc (.iset 2 (a1M f l)),[]):=by
 rw [K_fn P04.f121 _ _ rfl]
 simp only [go_sem,simprocAttr,a4h,c1y (Γ:=Γ) k l hl,Bool.false_or]
end
end Go.Pm.St
namespace Go.Pm.St
open Ac
def Cost.c (c:Cost):List C:=[ci c.p,ci c.f,ci c.n]
section
variable {Γ:Env} [P04 Γ] [G04 Γ]
@[go_sem] theorem c6H:K Γ (.fn 197) [] []=some (.agg [ci 0,ci 0,ci 0],[]):=by
 rw [K_fn P04.f197 _ _ rfl]
 simp only [go_sem,simprocAttr,a5v]
@[go_sem] theorem d0D (c:Cost) (now:Int) (x:Day):K Γ (.fn 199) [.agg [ci c.p,ci c.f,ci c.n],vi now,.agg x.c] []=some (vi (x.after c true now),[]):=by
 rw [K_fn P04.f199 _ _ rfl]
 simp only [go_sem,simprocAttr,a4g,Day.after,if_true]
theorem c2u (c:Cost) (now:Int) (x:Day) (hp:0<=c.p/\c.p<=6) (hf:0<=c.f/\c.f<=6) (h1:0<=x.plain/\x.plain<=2) (h2:0<=x.full/\x.full<=2) (hn : -1000<=now/\now<=1000) :
 K Γ (.fn 200) [.agg [ci c.p,ci c.f,ci c.n],vi now,.agg x.c] []=some (vi (x.after c false now),[]):=by
 have m1:0<=x.plain*c.p/\x.plain*c.p<=2*6:=⟨Int.mul_nonneg h1.1 hp.1,Int.mul_le_mul h1.2 hp.2 hp.1 (by omega)⟩
 have m2:0<=x.full*c.f/\x.full*c.f<=2*6:=⟨Int.mul_nonneg h2.1 hf.1,Int.mul_le_mul h2.2 hf.2 hf.1 (by omega)⟩
 have w1:IntKind.i64.wrap (x.plain*c.p)=x.plain*c.p:=wrap_i64 (by omega) (by omega)
 have w2:IntKind.i64.wrap (x.full*c.f)=x.full*c.f:=wrap_i64 (by omega) (by omega)
 have w3:IntKind.i64.wrap (now - x.plain*c.p)=now - x.plain*c.p:=wrap_i64 (by omega) (by omega)
 have w4:IntKind.i64.wrap (now - x.plain*c.p - x.full*c.f)=now - x.plain*c.p - x.full*c.f:=wrap_i64 (by omega) (by omega)
 rw [K_fn P04.f200 _ _ rfl]
 by_cases h:c.p=0/\c.f=0/\c.n=0
 ·have e:(decide (c.p=0)&&(decide (c.f=0)&&decide (c.n=0)))=true:=by simp [h.1,h.2.1,h.2.2]
  have e2:x.after c false now=now:=by simp [Day.after,h.1,h.2.1]
  simp only [go_sem,simprocAttr,a3n,e,e2]
 ·have e:(decide (c.p=0)&&(decide (c.f=0)&&decide (c.n=0)))=false:=by
   rw [Bool.eq_false_iff];intro e;simp only [Bool.and_eq_true,decide_eq_true_eq] at e;exact h e
  simp only [go_sem,simprocAttr,a3n,e,w1,w2,w3,w4,Day.after,Bool.false_eq_true,if_false]
theorem b9f (n:Int) (k:SK) (l:List Int) (hl:l.length<=1000000000) {β:Type} (Q:Ex->St->Option β) :
 E Γ a6M ⟨[(0,vi n),(7,.sc (.sl k 1 (l.map fun x=>[ci x]))),(8,vi l.length),(9,vi 0)],[]⟩ Q =
 Q (.exit 0) ⟨[(0,vi (l.foldl min n)),(7,.sc (.sl k 1 (l.map fun x=>[ci x]))),(8,vi l.length),(9,vi l.length),(10,vb false)],[]⟩:=by
 refine (a6g (fun i a=>⟨[(0,vi a),(7,.sc (.sl k 1 (l.map fun x=>[ci x]))),(8,vi l.length),(9,vi i)],[]⟩) l (fun a x=>min a x)
  (fun a=>(.exit 0,⟨[(0,vi a),(7,.sc (.sl k 1 (l.map fun x=>[ci x]))),(8,vi l.length),(9,vi l.length),(10,vb false)],[]⟩)) Q (fun i a x hx=>?_) (fun a=>?_) n).trans rfl
 ·have hlt:i<l.length:=(List.getElem?_eq_some_iff.1 hx).1
  have hi:IntKind.i64.wrap ((i:Int)+1)=i+1:=wrap_i64 (by omega) (by omega)
  (simp only [go_sem,simprocAttr,a2q,hx,hi];repeat' (first|((first|refine brY ?_|refine brN ?_|refine brA ?_|refine brD ?_|refine brF ?_|((first|apply a0k|apply a0j);(· intro h;simp only [go_sem,simprocAttr,a0p h,a2q,hx,hi];exact rfl)));(try simp only [go_sem,simprocAttr,a2q,hx,hi]))|((first|apply a0e|apply d7E|apply a0a)<;>intro h<;>(try simp only [go_sem,simprocAttr,h,a2q,hx,hi]))))
  rfl
 ·simp only [go_sem,simprocAttr,a2q]
@[go_sem] theorem b5X (n:Int) (k:SK) (l:List Int) (hl:l.length<=1000000000):K Γ (.fn 169) [vi n,.sc (.sl k 1 (l.map fun x=>[ci x]))] []=some (vi (l.foldl min n),[]):=by
 rw [K_fn P04.f169 _ _ rfl]
 simp only [go_sem,simprocAttr,a4J,b9f (Γ:=Γ) n k l hl]
@[go_sem] theorem c9O (n:Int) (k:SK) (v:Int):K Γ (.fn 169) [vi n,.sc (.sl k 1 [[ci v]])] []=some (vi (min n v),[]):=b5X n k [v] (by simp)
end
end Go.Pm.St
namespace Go.Pm.St
open Ac
def B12 (b:Book) (m t:C):List C:=[.sl b.ks 2 (b.singers.map Span.c),ci b.c0.lo,ci b.c0.hi,ci b.c1.lo,ci b.c1.hi,ci b.c2.lo,ci b.c2.hi,.sl b.kd 3 (b.days.map Day.c),.sl b.kr 2 (b.rests.map Rest.c),.sl b.kg 4 (b.signs.map Sign.c),m,t]
section
variable (b:Book) (m t:C)
@[go_sem] theorem d0H:(B12 b m t)[0]?=some (.sl b.ks 2 (b.singers.map Span.c)):=nrfl rfl
@[go_sem] theorem d0I:(B12 b m t)[1]?=some (ci b.c0.lo):=nrfl rfl
@[go_sem] theorem d0J:(B12 b m t)[2]?=some (ci b.c0.hi):=nrfl rfl
@[go_sem] theorem d0K:(B12 b m t)[3]?=some (ci b.c1.lo):=nrfl rfl
@[go_sem] theorem d0L:(B12 b m t)[4]?=some (ci b.c1.hi):=nrfl rfl
@[go_sem] theorem d0M:(B12 b m t)[5]?=some (ci b.c2.lo):=nrfl rfl
@[go_sem] theorem d0N:(B12 b m t)[6]?=some (ci b.c2.hi):=nrfl rfl
@[go_sem] theorem d0O:(B12 b m t)[7]?=some (.sl b.kd 3 (b.days.map Day.c)):=nrfl rfl
@[go_sem] theorem d0P:(B12 b m t)[8]?=some (.sl b.kr 2 (b.rests.map Rest.c)):=nrfl rfl
@[go_sem] theorem d0Q:(B12 b m t)[9]?=some (.sl b.kg 4 (b.signs.map Sign.c)):=nrfl rfl
@[go_sem] theorem d0b:(B12 b m t)[10]?=some (m):=nrfl rfl
@[go_sem] theorem d0c:(B12 b m t)[11]?=some (t):=nrfl rfl
@[go_sem] theorem c8V:(B12 b m t).length=12:=nrfl rfl
@[go_sem] theorem d0d:a0R (B12 b m t) 0 12=some (B12 b m t):=nrfl rfl
theorem b1q (hm:a0r m=m) (ht:a0r t=t):(B12 b m t).map a0r=B12 b m t:=by
 unfold B12
 simp only [List.map_cons,List.map_nil,hm,ht]
 rfl
@[go_sem] theorem c8U:a0R (B12 b m t) 0 10=some b.c:=nrfl rfl
theorem a2S (h:C.a0v [m,t]=true):C.a0v (B12 b m t)=true:=by
 simp only [C.a0v,Bool.and_true,Bool.and_eq_true] at h
 simp only [B12,C.a0v,C.pure,h.1,h.2,Bool.and_self]
end
def b1E (l:List Day) (c:Cost) (s:Int) (r:Nat->Bool):Nat->Int
 | 0=>s
 | d+1=>a2B l c s r d
section
variable {Γ:Env} [P04 Γ] [G04 Γ]
theorem b7J (b:Book) (hs:Sane b) (m t:C) (hmt:C.a0v [m,t]=true) (c:Cost) (h0:b.c0.has c.p) (h1:b.c1.has c.f) (h2:b.c2.has c.n) (i0 s:Int) (hs0:0<=s/\s<=30) (d:Nat) (hd:d<b.days.length) (F:List Int->Bool) :
 K Γ (.fn 188) [.agg (B12 b m t),.agg [ci c.p,ci c.f,ci c.n],vi i0,vi s,vi d,.sc (.iset 2 F)] []=some (vi (a2B b.days c s (fun e:Nat=>F [(e:Int),i0]) d),[]):=by
 have hu (n:Nat):C.a0G n (B12 b m t)=true:=a0C n _ (a2S b m t hmt)
 have hd5:=hs.d5
 have k0:=hs.k0;have k1:=hs.k1;have k2:=hs.k2
 have hmild:Mild b.days c:=⟨by have:=h0.1;omega,by have:=h1.1;omega,fun x hx=>⟨(hs.dy x hx).1.1,(hs.dy x hx).2.1.1⟩⟩
 obtain ⟨r,hr⟩:∃ r:Nat->Bool,(fun e:Nat=>F [(e:Int),i0])=r:=⟨_,rfl⟩
 have hre:∀ e:Nat,F [(e:Int),i0]=r e:=fun e=>by rw [← hr]
 have hdw:IntKind.i64.wrap ((d:Int)+1)=((d+1:Nat):Int):=by rw [wrap_i64 (by omega) (by omega)];rfl
 have hL {β:Type} {Q:Ex->St->Option β}:E Γ a6J ⟨[(2,vi i0),(3,vi s),(5,.sc (.iset 2 F)),(6,.sc (.ptr 0 0)),(7,.sc (.ptr 1 0)),(13,vi s),(14,vi s),(20,vi ((d+1:Nat):Int)),(21,vi 0)],[.var (B12 b m t),.var [ci c.p,ci c.f,ci c.n]]⟩ Q =
  Q (.exit 0) ⟨[(2,vi i0),(3,vi s),(5,.sc (.iset 2 F)),(6,.sc (.ptr 0 0)),(7,.sc (.ptr 1 0)),(13,vi (nowAt b.days c s r (d+1))),(14,vi (b1E b.days c s r (d+1))),(20,vi ((d+1:Nat):Int)),(21,vi ((d+1:Nat):Int)),(22,vb false)],[.var (B12 b m t),.var [ci c.p,ci c.f,ci c.n]]⟩:=by
  refine a4q (d+1) (fun i (_:Unit)=>⟨[(2,vi i0),(3,vi s),(5,.sc (.iset 2 F)),(6,.sc (.ptr 0 0)),(7,.sc (.ptr 1 0)),(13,vi (nowAt b.days c s r i)),(14,vi (b1E b.days c s r i)),(20,vi ((d+1:Nat):Int)),(21,vi i)],[.var (B12 b m t),.var [ci c.p,ci c.f,ci c.n]]⟩) (fun _ _=>True)
   (fun _=>(.exit 0,⟨[(2,vi i0),(3,vi s),(5,.sc (.iset 2 F)),(6,.sc (.ptr 0 0)),(7,.sc (.ptr 1 0)),(13,vi (nowAt b.days c s r (d+1))),(14,vi (b1E b.days c s r (d+1))),(20,vi ((d+1:Nat):Int)),(21,vi ((d+1:Nat):Int)),(22,vb false)],[.var (B12 b m t),.var [ci c.p,ci c.f,ci c.n]]⟩)) () rfl trivial ?_ ?_ (fun _ _=>rfl)
  ·intro i _ hi _
   refine ⟨(),trivial,?_⟩
   have hlt:i<b.days.length:=by omega
   obtain ⟨x,hx⟩:∃ x,b.days[i]?=some x:=⟨_,List.getElem?_eq_getElem hlt⟩
   have hday:=hs.dy x (List.mem_of_getElem? hx)
   have hil:decide ((i:Int)<((d+1:Nat):Int))=true:=decide_eq_true (by omega)
   have hiw:IntKind.i64.wrap ((i:Int)+1)=i+1:=wrap_i64 (by omega) (by omega)
   have hn1:=b1e hs h0 h1 h2 hs0.1 (r:=r) i
   have hn2:=b1f (l:=b.days) (c:=c) (s:=s) (r:=r) i
   have he1:=b3h hs h0 h1 h2 hs0.1 (r:=r) i
   have he2:=b3i hmild (s:=s) (r:=r) i
   have hw:IntKind.i64.wrap (a2B b.days c s r i+c.n)=a2B b.days c s r i+c.n:=wrap_i64 (by have:=h2.1;omega) (by have:=h2.2;omega)
   have hnow:=b6H (l:=b.days) (c:=c) (s:=s) (r:=r) hlt
   have hleft:a2B b.days c s r i=x.after c (r i) (nowAt b.days c s r i):=by simp only [a2B,hx]
   have hsing:=c2u (Γ:=Γ) c (nowAt b.days c s r i) x ⟨by have:=h0.1;omega,by have:=h0.2;omega⟩ ⟨by have:=h1.1;omega,by have:=h1.2;omega⟩ hday.1 hday.2.1 (by omega)
   simp only [hnow,b1E]
   cases hri:r i with
   | true =>
    rw [hri] at hleft
    rw [hleft] at hw ⊢
    (simp only [go_sem,simprocAttr,a0Z,hil,hx,hre,hri,hw,hiw,hu,G04.g4];repeat' ((first|refine brY ?_|refine brN ?_|refine brA ?_|refine brD ?_|refine brF ?_);(try simp only [go_sem,simprocAttr,a0Z,hil,hx,hre,hri,hw,hiw,hu,G04.g4])))
    rfl
   | false =>
    rw [hri] at hleft
    rw [hleft] at hw ⊢
    (simp only [go_sem,simprocAttr,a0Z,hil,hx,hre,hri,hw,hiw,hu,G04.g4,hsing];repeat' ((first|refine brY ?_|refine brN ?_|refine brA ?_|refine brD ?_|refine brF ?_);(try simp only [go_sem,simprocAttr,a0Z,hil,hx,hre,hri,hw,hiw,hu,G04.g4,hsing])))
    rfl
  ·intro _ _
   have hil:decide (((d+1:Nat):Int)<((d+1:Nat):Int))=false:=decide_eq_false (by omega)
   (simp only [go_sem,simprocAttr,a0Z,hil];repeat' ((first|refine brY ?_|refine brN ?_|refine brA ?_|refine brD ?_|refine brF ?_);(try simp only [go_sem,simprocAttr,a0Z,hil])))
 rw [hr]
 rw [K_fn P04.f188 _ _ rfl]
 simp only [go_sem,simprocAttr,a4G,hdw,hL,hu,b1E]
end
end Go.Pm.St
namespace Go.Pm.St
open Ac
def idxOf (n:Int) (l:List Int):Int:=match a0z (fun _ x=>decide (n=x)) 0 l with|some (i,_)=>i|none => -1
theorem b4v (n:Int) (l:List Int):decide (0<=idxOf n l)=l.contains n:=by
 unfold idxOf
 cases h:a0z (fun _ x=>decide (n=x)) 0 l with
 | none =>
  rw [a2L] at h
  rw [eq_comm,decide_eq_false (by decide),Bool.eq_false_iff]
  intro hc;rw [List.contains_iff_mem,List.mem_iff_getElem?] at hc
  obtain ⟨i,hi⟩:=hc
  have:=h i n hi
  simp at this
 | some q =>
  obtain ⟨-,h2,h3, -⟩:=a3F h
  simp only [decide_eq_true_eq] at h3
  rw [h3,List.contains_iff_mem.2 (List.mem_iff_getElem?.2 ⟨_,h2⟩)]
  simp
section
variable {Γ:Env} [P04 Γ] [G04 Γ]
@[go_sem] theorem c9L (k:SK) (l:List Int) (n:Int) (hl:l.length<=1000000):K Γ (.fn 83) [.sc (.sl k 1 (l.map fun x=>[ci x])),vi n] []=some (vi (idxOf n l),[]):=by
 rw [K_fn P04.f83 _ _ rfl]
 simp only [go_sem,simprocAttr,a3r]
 refine (a4L (fun i=>⟨[(0,.sc (.sl k 1 (l.map fun x=>[ci x]))),(1,vi n),(7,vi l.length),(8,vi i)],[]⟩) l (fun _ x=>decide (n=x))
  (fun i x=>(.ret,⟨[(4,vi i)],[]⟩)) (.exit 0,⟨[(0,.sc (.sl k 1 (l.map fun x=>[ci x]))),(1,vi n),(7,vi l.length),(8,vi l.length),(9,vb false)],[]⟩) _ ?_ ?_ ?_).trans ?_
 ·intro i x hx hf
  have hlt:i<l.length:=(List.getElem?_eq_some_iff.1 hx).1
  have hi:IntKind.i64.wrap ((i:Int)+1)=i+1:=wrap_i64 (by omega) (by omega)
  simp only [go_sem,simprocAttr,a2R,hx,hi]
  repeat' (first|((first|refine brY ?_|refine brN ?_|refine brA ?_|refine brD ?_|refine brF ?_|((first|apply a0k|apply a0j);(· intro h;simp only [go_sem,simprocAttr,a0p h,hx,hi,hf];exact rfl)));(try simp only [go_sem,simprocAttr,hx,hi,hf]))|((first|apply a0e|apply d7E|apply a0a)<;>intro h<;>(try simp only [go_sem,simprocAttr,h,hx,hi,hf])))
  rfl
 ·intro i x hx hf
  have hlt:i<l.length:=(List.getElem?_eq_some_iff.1 hx).1
  simp only [go_sem,simprocAttr,a2R,hx]
  repeat' (first|((first|refine brY ?_|refine brN ?_|refine brA ?_|refine brD ?_|refine brF ?_|((first|apply a0k|apply a0j);(· intro h;simp only [go_sem,simprocAttr,a0p h,hx,hf];exact rfl)));(try simp only [go_sem,simprocAttr,hx,hf]))|((first|apply a0e|apply d7E|apply a0a)<;>intro h<;>(try simp only [go_sem,simprocAttr,h,hx,hf])))
 ·simp only [go_sem,simprocAttr,a2R]
 ·cases h:a0z (fun _ x=>decide (n=x)) 0 l with
  | none=>simp only [go_sem,simprocAttr,idxOf,h]
  | some q=>simp only [go_sem,simprocAttr,idxOf,h]
@[go_sem] theorem contains_k (k:SK) (l:List Int) (n:Int) (hl:l.length<=1000000):K Γ (.fn 76) [.sc (.sl k 1 (l.map fun x=>[ci x])),vi n] []=some (vb (l.contains n),[]):=by
 rw [K_fn P04.f76 _ _ rfl]
 simp only [go_sem,simprocAttr,a2Q,hl,b4v]
def Book.off (b:Book) (c:Cost) (i0 s:Int) (but:List Int) (i:Nat) (x:Sign):Bool:=decide (x.singer=i0)&&!but.contains (i:Int)&&!b.fair c i0 s x
theorem b9v (b:Book) (hs:Sane b) (F:List Int->Bool) (hF:∀ (e:Nat) (i:Int),F [(e:Int),i]=a2Y b.rests i e) (t:C) (ht:t.pure=true) (c:Cost) (h0:b.c0.has c.p) (h1:b.c1.has c.f) (h2:b.c2.has c.n) (i0 s:Int) (hs0:0<=s/\s<=30)
 (kb:SK) (but:List Int) (hbut:but.length<=1000000) {β:Type} (Q:Ex->St->Option β) :
 E Γ a6F ⟨[(2,vi i0),(3,vi s),(4,.sc (.sl kb 1 (but.map fun x=>[ci x]))),(5,.sc (.ptr 0 0)),(6,.sc (.ptr 1 0)),(15,.sc (.sl b.kg 4 (b.signs.map Sign.c))),(16,vi b.signs.length),(17,vi 0)],[.var (B12 b (.iset 2 F) t),.var [ci c.p,ci c.f,ci c.n]]⟩ Q =
 match a0z (b.off c i0 s but) 0 b.signs with
 | some (i,x)=>Q .ret ⟨[(10,vb false)],[.var (B12 b (.iset 2 F) t),.var [ci c.p,ci c.f,ci c.n],.var x.c]⟩
 | none=>Q (.exit 0) ⟨[(2,vi i0),(3,vi s),(4,.sc (.sl kb 1 (but.map fun x=>[ci x]))),(5,.sc (.ptr 0 0)),(6,.sc (.ptr 1 0)),(15,.sc (.sl b.kg 4 (b.signs.map Sign.c))),(16,vi b.signs.length),(17,vi b.signs.length),(18,vb false)],[.var (B12 b (.iset 2 F) t),.var [ci c.p,ci c.f,ci c.n]]⟩:=by
 have hmt:C.a0v [.iset 2 F,t]=true:=by simp [C.a0v,C.pure,ht]
 have hu (n:Nat):C.a0G n (B12 b (.iset 2 F) t)=true:=a0C n _ (a2S b _ t hmt)
 have hg4:=hs.g4
 have hd5:=hs.d5
 have hun:a0r t=t:=a9r t ht
 have hBu:=b1q b (.iset 2 F) t rfl hun
 have hBp:=a2S b (.iset 2 F) t hmt
 have hmild:Mild b.days c:=⟨by have:=h0.1;have:=hs.k0;omega,by have:=h1.1;have:=hs.k1;omega,fun x hx=>⟨(hs.dy x hx).1.1,(hs.dy x hx).2.1.1⟩⟩
 have step:∀ (i:Nat) x,b.signs[i]?=some x->∃ y,K Γ (.fn 188) [.agg (B12 b (.iset 2 F) t),.agg [ci c.p,ci c.f,ci c.n],vi i0,vi s,vi x.day,.sc (.iset 2 F)] []=some (vi y,[])/\IntKind.i64.wrap (x.left - y)=x.left - y/\IntKind.i64.wrap (0 - x.err) = -x.err ∧
  within (x.left - y) (-x.err) x.err=b.fair c i0 s x:=by
  intro i x hx
  have hx':=hs.sg x (List.mem_of_getElem? hx)
  have hk:=b7J (Γ:=Γ) b hs (.iset 2 F) t hmt c h0 h1 h2 i0 s hs0 x.day.toNat (by omega) F
  rw [show ((x.day.toNat:Nat):Int)=x.day by omega] at hk
  have hr:(fun e:Nat=>F [(e:Int),i0])=a2Y b.rests i0:=funext fun e=>hF e i0
  rw [hr] at hk
  have l1:=b3h hs h0 h1 h2 hs0.1 (r:=a2Y b.rests i0) x.day.toNat
  have l2:=b3i hmild (s:=s) (r:=a2Y b.rests i0) x.day.toNat
  exact ⟨_,hk,wrap_i64 (by omega) (by omega),by rw [show 0 - x.err = -x.err by omega];exact wrap_i64 (by omega) (by omega),rfl⟩
 refine (a4L (fun i=>⟨[(2,vi i0),(3,vi s),(4,.sc (.sl kb 1 (but.map fun x=>[ci x]))),(5,.sc (.ptr 0 0)),(6,.sc (.ptr 1 0)),(15,.sc (.sl b.kg 4 (b.signs.map Sign.c))),(16,vi b.signs.length),(17,vi i)],[.var (B12 b (.iset 2 F) t),.var [ci c.p,ci c.f,ci c.n]]⟩) b.signs (b.off c i0 s but)
  (fun i x=>(.ret,⟨[(10,vb false)],[.var (B12 b (.iset 2 F) t),.var [ci c.p,ci c.f,ci c.n],.var x.c]⟩)) (.exit 0,⟨[(2,vi i0),(3,vi s),(4,.sc (.sl kb 1 (but.map fun x=>[ci x]))),(5,.sc (.ptr 0 0)),(6,.sc (.ptr 1 0)),(15,.sc (.sl b.kg 4 (b.signs.map Sign.c))),(16,vi b.signs.length),(17,vi b.signs.length),(18,vb false)],[.var (B12 b (.iset 2 F) t),.var [ci c.p,ci c.f,ci c.n]]⟩) _ ?_ ?_ ?_).trans ?_
 ·intro i x hx hf
  have hlt:i<b.signs.length:=(List.getElem?_eq_some_iff.1 hx).1
  have hi:IntKind.i64.wrap ((i:Int)+1)=i+1:=wrap_i64 (by omega) (by omega)
  obtain ⟨y,hy,hw1,hw2,hfair⟩:=step i x hx
  cases hb:but.contains (i:Int)<;>cases hsi:decide (x.singer=i0)<;>cases hfa:b.fair c i0 s x<;>simp only [Book.off,hb,hsi,hfa,Bool.not_true,Bool.not_false,Bool.and_true,Bool.and_false,Bool.true_and,Bool.false_and,Bool.and_self,reduceCtorEq] at hf <;>
   (rw [hfa] at hfair;(simp only [go_sem,simprocAttr,a1r,hx,hi,hu,hun,hBu,hBp,hbut,hb,hsi,hy,hw1,hw2,hfair,a3X];repeat' ((first|refine brY ?_|refine brN ?_|refine brA ?_|refine brD ?_|refine brF ?_);(try simp only [go_sem,simprocAttr,a1r,hx,hi,hu,hun,hBu,hBp,hbut,hb,hsi,hy,hw1,hw2,hfair,a3X])));first|done|rfl)
 ·intro i x hx hf
  have hlt:i<b.signs.length:=(List.getElem?_eq_some_iff.1 hx).1
  obtain ⟨y,hy,hw1,hw2,hfair⟩:=step i x hx
  simp only [Book.off,Bool.and_eq_true,Bool.not_eq_true'] at hf
  obtain ⟨⟨hsi,hb⟩,hfa⟩:=hf
  rw [hfa] at hfair
  (simp only [go_sem,simprocAttr,a1r,hx,hu,hun,hBu,hBp,hbut,hb,hsi,hy,hw1,hw2,hfair,a3X];repeat' ((first|refine brY ?_|refine brN ?_|refine brA ?_|refine brD ?_|refine brF ?_);(try simp only [go_sem,simprocAttr,a1r,hx,hu,hun,hBu,hBp,hbut,hb,hsi,hy,hw1,hw2,hfair,a3X])))
 ·simp only [go_sem,simprocAttr,a1r]
 ·cases a0z (b.off c i0 s but) 0 b.signs with
  | none=>rfl
  | some q=>obtain ⟨i,x⟩:=q;rfl
theorem a8V (b:Book) (c:Cost) (i0 s:Int) (but:List Int):∀ (l:List Sign) (k:Nat),b.rightFrom c i0 s (fun n=>but.contains n) k l=(a0z (b.off c i0 s but) k l).isNone
 | [],k=>rfl
 | x::l,k=>by
  have ih:=a8V b c i0 s but l (k+1)
  have ho:(decide (x.singer=i0)&&!but.contains (k:Int)&&!b.fair c i0 s x)=b.off c i0 s but k x:=rfl
  simp only [Book.rightFrom,a0z,ih]
  rw [ho]
  by_cases h:b.off c i0 s but k x=true
  ·rw [if_pos h,h];rfl
  ·rw [if_neg h]
   rw [Bool.not_eq_true] at h
   rw [h];simp
theorem c1k (b:Book) (hs:Sane b) (F:List Int->Bool) (hF:∀ (e:Nat) (i:Int),F [(e:Int),i]=a2Y b.rests i e) (t:C) (ht:t.pure=true) (c:Cost) (h0:b.c0.has c.p) (h1:b.c1.has c.f) (h2:b.c2.has c.n) (i0 s:Int) (hs0:0<=s/\s<=30)
 (kb:SK) (but:List Int) (hbut:but.length<=1000000) :
 K Γ (.fn 171) [.agg (B12 b (.iset 2 F) t),.agg [ci c.p,ci c.f,ci c.n],vi i0,vi s,.sc (.sl kb 1 (but.map fun x=>[ci x]))] []=some (vb (b.right c i0 s fun n=>but.contains n),[]):=by
 have hmt:C.a0v [.iset 2 F,t]=true:=by simp [C.a0v,C.pure,ht]
 have hu (n:Nat):C.a0G n (B12 b (.iset 2 F) t)=true:=a0C n _ (a2S b _ t hmt)
 rw [Book.right,a8V]
 have hL {β:Type} (Q:Ex->St->Option β):=b9v (Γ:=Γ) b hs F hF t ht c h0 h1 h2 i0 s hs0 kb but hbut Q
 cases hf:a0z (b.off c i0 s but) 0 b.signs with
 | none =>
  simp only [hf] at hL
  rw [K_fn P04.f171 _ _ rfl]
  simp only [go_sem,simprocAttr,a3m,hL,hu,Option.isNone_none]
 | some q =>
  obtain ⟨i,x⟩:=q
  simp only [hf] at hL
  rw [K_fn P04.f171 _ _ rfl]
  simp only [go_sem,simprocAttr,a3m,hL,hu,Option.isNone_some]
end
end Go.Pm.St
namespace Go.Pm.St
open Ac
def cmp3 (a b:Int):Int:=if a<b then -1 else if b<a then 1 else 0
def Rest.cmp (x y:Rest):Int:=if cmp3 x.day y.day=0 then cmp3 x.singer y.singer else cmp3 x.day y.day
def a2b (l:List Sign):Int:=l.foldl (fun n x=>max n (x.day+1)) 0
section
variable {Γ:Env} [P04 Γ] [G04 Γ]
@[go_sem] theorem c9N (a:Int):K Γ (.fn 177) [vi a] []=some (vb false,[]):=by
 rw [K_fn P04.f177 _ _ rfl]
 simp only [go_sem,simprocAttr,cmp_isNaN_int,bne_self_eq_false]
@[go_sem] theorem d0y (a b:Int):K Γ (.fn 163) [vi a,vi b] []=some (vi (cmp3 a b),[]):=by
 rw [K_fn P04.f163 _ _ rfl]
 by_cases h1:a<b
 ·have e:=decide_eq_true h1
  simp only [go_sem,simprocAttr,cmp_Compare_int,cmp3,e,h1,if_true]
 ·have e:=decide_eq_false h1
  by_cases h2:b<a
  ·have e2:=decide_eq_true h2
   simp only [go_sem,simprocAttr,cmp_Compare_int,cmp3,e,e2,h1,h2,if_true,if_false]
  ·have e2:=decide_eq_false h2
   simp only [go_sem,simprocAttr,cmp_Compare_int,cmp3,e,e2,h1,h2,if_true,if_false]
@[go_sem] theorem d1d (k:SK) (a b:Int):K Γ (.fn 164) [.sc (.sl k 1 [[ci a],[ci b]])] []=some (vi (if a=0 then b else a),[]):=by
 rw [K_fn P04.f164 _ _ rfl]
 by_cases h1:a=0
 ·subst h1
  by_cases h2:b=0
  ·subst h2
   simp only [go_sem,simprocAttr,a5n,a5I,a5H,a1J]
  ·have e2:decide (b=0)=false:=decide_eq_false h2
   simp only [go_sem,simprocAttr,a5n,a5I,a5H,a1J,e2]
 ·have e1:decide (a=0)=false:=decide_eq_false h1
  simp only [go_sem,simprocAttr,a5n,a5I,a5H,a1J,e1,h1,if_false]
@[go_sem] theorem c6u (x y:Rest):K Γ (.fn 131) [.agg x.c,.agg y.c] []=some (vi (x.cmp y),[]):=by
 rw [K_fn P04.f131 _ _ rfl]
 simp only [go_sem,simprocAttr,a5u]
 rfl
theorem c1g (b:Book) (hs:Sane b) {β:Type} (Q:Ex->St->Option β):E Γ a9d ⟨[(3,vi 0),(7,.sc (.sl b.kg 4 (b.signs.map Sign.c))),(8,vi b.signs.length),(9,vi 0)],[.var b.c]⟩ Q =
 Q (.exit 0) ⟨[(3,vi (a2b b.signs)),(7,.sc (.sl b.kg 4 (b.signs.map Sign.c))),(8,vi b.signs.length),(9,vi b.signs.length),(10,vb false)],[.var b.c]⟩:=by
 refine (a6g (fun i a=>⟨[(3,vi a),(7,.sc (.sl b.kg 4 (b.signs.map Sign.c))),(8,vi b.signs.length),(9,vi i)],[.var b.c]⟩) b.signs (fun n x=>max n (x.day+1))
  (fun a=>(.exit 0,⟨[(3,vi a),(7,.sc (.sl b.kg 4 (b.signs.map Sign.c))),(8,vi b.signs.length),(9,vi b.signs.length),(10,vb false)],[.var b.c]⟩)) Q (fun i a x hx=>?_) (fun a=>?_) 0).trans rfl
 ·have hlt:i<b.signs.length:=(List.getElem?_eq_some_iff.1 hx).1
  have hg:=hs.g4
  have hd5:=hs.d5
  have hx':=hs.sg x (List.mem_of_getElem? hx)
  have hi:IntKind.i64.wrap ((i:Int)+1)=i+1:=wrap_i64 (by omega) (by omega)
  have hw:IntKind.i64.wrap (x.day+1)=x.day+1:=wrap_i64 (by omega) (by omega)
  (simp only [go_sem,simprocAttr,a2m,hx,hi,hw];repeat' ((first|refine brY ?_|refine brN ?_|refine brA ?_|refine brD ?_|refine brF ?_);(try simp only [go_sem,simprocAttr,a2m,hx,hi,hw])))
  rfl
 ·(simp only [go_sem,simprocAttr,a2m];repeat' ((first|refine brY ?_|refine brN ?_|refine brA ?_|refine brD ?_|refine brF ?_);(try simp only [go_sem,simprocAttr,a2m])))
theorem b0g (b:Book) (hs:Sane b):K Γ (.fn 112) [.agg b.c] []=some (vi (a2b b.signs),[]):=by
 rw [K_fn P04.f112 _ _ rfl]
 simp only [go_sem,simprocAttr,a7d,c1g (Γ:=Γ) b hs]
end
end Go.Pm.St
namespace Go.Pm.St
open Ac
section
variable {Γ:Env} [P04 Γ] [G04 Γ]
theorem c3Q (k:SK) (x:Int) (l:List Int) (hl:l.length<=1000000000):K Γ (.fn 189) [.sc (.sl k 1 ([ci x]::l.map fun y=>[ci y]))] []=some (vi (l.foldl max x),[]):=by
 have hlen:((x::l).length:Int)=((l.length+1:Nat):Int):=by simp
 have hL {β:Type} {Q:Ex->St->Option β}:E Γ a6d ⟨[(0,.sc (.sl k 1 ([ci x]::l.map fun y=>[ci y]))),(3,vi x),(4,vi 1)],[]⟩ Q =
  Q (.exit 0) ⟨[(0,.sc (.sl k 1 ([ci x]::l.map fun y=>[ci y]))),(3,vi (l.foldl max x)),(4,vi ((l.length+1:Nat):Int)),(15,vb false)],[]⟩:=by
  refine a4q l.length (fun i (a:Int)=>⟨[(0,.sc (.sl k 1 ([ci x]::l.map fun y=>[ci y]))),(3,vi a),(4,vi ((i+1:Nat):Int))],[]⟩) (fun i a=>a=(l.take i).foldl max x)
   (fun a=>(.exit 0,⟨[(0,.sc (.sl k 1 ([ci x]::l.map fun y=>[ci y]))),(3,vi a),(4,vi ((l.length+1:Nat):Int)),(15,vb false)],[]⟩)) x rfl (by simp) ?_ ?_ (fun a ha=>by rw [ha,List.take_length])
  ·intro i a hi ha
   obtain ⟨y,hy⟩:∃ y,l[i]?=some y:=⟨_,List.getElem?_eq_getElem hi⟩
   have hy':(x::l)[i+1]?=some y:=by simpa using hy
   refine ⟨max a y,by rw [List.take_add_one,hy];simp [ha],?_⟩
   have hlt:decide (((i+1:Nat):Int)<((l.length+1:Nat):Int))=true:=decide_eq_true (by omega)
   have hw:IntKind.i64.wrap (((i+1:Nat):Int)+1)=((i+1+1:Nat):Int):=by rw [wrap_i64 (by omega) (by omega)];rfl
   (simp only [go_sem,simprocAttr,a2f,List.length_cons,hlt,hy,hw];repeat' ((first|refine brY ?_|refine brN ?_|refine brA ?_|refine brD ?_|refine brF ?_);(try simp only [go_sem,simprocAttr,a2f,List.length_cons,hlt,hy,hw])))
  ·intro a _
   have hlt:decide (((l.length+1:Nat):Int)<((l.length+1:Nat):Int))=false:=decide_eq_false (by omega)
   simp only [go_sem,simprocAttr,a2f,List.length_cons,hlt]
 have h1:decide (((l.length+1:Nat):Int)<1)=false:=decide_eq_false (by omega)
 rw [K_fn P04.f189 _ _ rfl]
 simp only [go_sem,simprocAttr,a3S,List.length_cons,h1,hL]
end
end Go.Pm.St
namespace Go.Pm.St
open Ac
def a5d (l:List Day) (d:Nat):Bool:=match l[d]? with
 | some x=>!decide (x.full=0)
 | none=>false
def third (l:List Day) (r:Nat->Bool) (d:Nat):Bool:=decide (2<=d)&&((a5d l (d - 2)&&!r (d - 2))&&((a5d l (d - 1)&&!r (d - 1))&&(a5d l d&&!r d)))
section
variable {Γ:Env} [P04 Γ] [G04 Γ]
theorem c1w (b:Book) (hs:Sane b) (m t:C) (hmt:C.a0v [m,t]=true) (i0:Int) (d:Nat) (hd:d<b.days.length) (F:List Int->Bool) :
 K Γ (.fn 145) [.agg (B12 b m t),vi i0,vi d,.sc (.iset 2 F)] []=some (vb (third b.days (fun e:Nat=>F [(e:Int),i0]) d),[]):=by
 have hu (n:Nat):C.a0G n (B12 b m t)=true:=a0C n _ (a2S b m t hmt)
 have hd5:=hs.d5
 have hx:∀ e,e<=d->∃ x,b.days[e]?=some x:=fun e he=>⟨_,List.getElem?_eq_getElem (by omega)⟩
 have hcase:d=0\/d=1\/d=2\/d=3\/d=4:=by omega
 rcases hcase with rfl|rfl|rfl|rfl|rfl
 ·rw [K_fn P04.f145 _ _ rfl]
  simp only [go_sem,simprocAttr,a0N,a0K,a0J,a1J,hu]
  rfl
 ·rw [K_fn P04.f145 _ _ rfl]
  simp only [go_sem,simprocAttr,a0N,a0K,a0J,a1J,hu]
  rfl
 all_goals
  obtain ⟨x0,h0⟩:=hx 0 (by omega)
  obtain ⟨x1,h1⟩:=hx 1 (by omega)
  obtain ⟨x2,h2⟩:=hx 2 (by omega)
 ·rw [K_fn P04.f145 _ _ rfl]
  (simp only [go_sem,simprocAttr,a0N,a0K,a0J,a1J,hu,h0,h1,h2];repeat' (first|((first|refine brY ?_|refine brN ?_|refine brA ?_|refine brD ?_|refine brF ?_|((first|apply a0k|apply a0j);(· intro h;simp only [go_sem,simprocAttr,a0p h,a0N,a0K,a0J,a1J,hu,h0,h1,h2];exact rfl)));(try simp only [go_sem,simprocAttr,a0N,a0K,a0J,a1J,hu,h0,h1,h2]))|((first|apply a0e|apply d7E|apply a0a)<;>intro h<;>(try simp only [go_sem,simprocAttr,h,a0N,a0K,a0J,a1J,hu,h0,h1,h2]))))
  all_goals (simp_all [third,a5d];done)
 ·obtain ⟨x3,h3⟩:=hx 3 (by omega)
  rw [K_fn P04.f145 _ _ rfl]
  (simp only [go_sem,simprocAttr,a0N,a0K,a0J,a1J,hu,h1,h2,h3];repeat' (first|((first|refine brY ?_|refine brN ?_|refine brA ?_|refine brD ?_|refine brF ?_|((first|apply a0k|apply a0j);(· intro h;simp only [go_sem,simprocAttr,a0p h,a0N,a0K,a0J,a1J,hu,h1,h2,h3];exact rfl)));(try simp only [go_sem,simprocAttr,a0N,a0K,a0J,a1J,hu,h1,h2,h3]))|((first|apply a0e|apply d7E|apply a0a)<;>intro h<;>(try simp only [go_sem,simprocAttr,h,a0N,a0K,a0J,a1J,hu,h1,h2,h3]))))
  all_goals (simp_all [third,a5d];done)
 ·obtain ⟨x3,h3⟩:=hx 3 (by omega)
  obtain ⟨x4,h4⟩:=hx 4 (by omega)
  rw [K_fn P04.f145 _ _ rfl]
  (simp only [go_sem,simprocAttr,a0N,a0K,a0J,a1J,hu,h2,h3,h4];repeat' (first|((first|refine brY ?_|refine brN ?_|refine brA ?_|refine brD ?_|refine brF ?_|((first|apply a0k|apply a0j);(· intro h;simp only [go_sem,simprocAttr,a0p h,a0N,a0K,a0J,a1J,hu,h2,h3,h4];exact rfl)));(try simp only [go_sem,simprocAttr,a0N,a0K,a0J,a1J,hu,h2,h3,h4]))|((first|apply a0e|apply d7E|apply a0a)<;>intro h<;>(try simp only [go_sem,simprocAttr,h,a0N,a0K,a0J,a1J,hu,h2,h3,h4]))))
  all_goals (simp_all [third,a5d];done)
end
end Go.Pm.St
namespace Go.Pm.St
open Ac
def Rest.same (x y:Rest):Bool:=decide (x.day=y.day)&&decide (x.singer=y.singer)
def idxR (n:Rest) (l:List Rest):Int:=match a0z (fun _ x=>x.same n) 0 l with|some (i,_)=>i|none => -1
theorem b5s (n:Rest) (l:List Rest):decide (0<=idxR n l)=l.any (·.same n):=by
 unfold idxR
 cases h:a0z (fun _ x=>x.same n) 0 l with
 | none =>
  rw [a2L] at h
  rw [eq_comm,decide_eq_false (by decide),Bool.eq_false_iff]
  intro hc
  obtain ⟨x,hx,e⟩:=List.any_eq_true.1 hc
  obtain ⟨i,hi⟩:=List.getElem?_of_mem hx
  have:=h i x hi
  rw [this] at e;cases e
 | some q =>
  obtain ⟨i,x⟩:=q
  obtain ⟨-,h2,h3, -⟩:=a3F h
  rw [List.any_eq_true.2 ⟨x,List.mem_of_getElem? h2,h3⟩]
  simp
@[go_sem] theorem Rest.a0c (x y:Rest):a0c [1,1] x.c y.c=some (decide (x.day=y.day)&&decide (x.singer=y.singer)):=b4A _ _ _ _
section
variable {Γ:Env} [P04 Γ] [G04 Γ]
@[go_sem] theorem b9a (k:SK) (l:List Rest) (n:Rest) (hl:l.length<=1000000):K Γ (.fn 175) [.sc (.sl k 2 (l.map Rest.c)),.agg n.c] []=some (vi (idxR n l),[]):=by
 rw [K_fn P04.f175 _ _ rfl]
 simp only [go_sem,simprocAttr,a1x]
 refine (a4L (fun i=>⟨[(0,.sc (.sl k 2 (l.map Rest.c))),(3,.sc (.ptr 0 0)),(7,vi l.length),(8,vi i)],[.var n.c]⟩) l (fun _ x=>x.same n)
  (fun i x=>(.ret,⟨[(4,vi i)],[.var n.c]⟩)) (.exit 0,⟨[(0,.sc (.sl k 2 (l.map Rest.c))),(3,.sc (.ptr 0 0)),(7,vi l.length),(8,vi l.length),(9,vb false)],[.var n.c]⟩) _ ?_ ?_ ?_).trans ?_
 ·intro i x hx hf
  have hlt:i<l.length:=(List.getElem?_eq_some_iff.1 hx).1
  have hi:IntKind.i64.wrap ((i:Int)+1)=i+1:=wrap_i64 (by omega) (by omega)
  simp only [Rest.same] at hf
  have hf':(decide (n.day=x.day)&&decide (n.singer=x.singer))=false:=by rw [← hf];congr 1<;>exact decide_eq_decide.2 eq_comm
  (simp only [go_sem,simprocAttr,a0y,hx,hi,hf,hf'];repeat' ((first|refine brY ?_|refine brN ?_|refine brA ?_|refine brD ?_|refine brF ?_);(try simp only [go_sem,simprocAttr,a0y,hx,hi,hf,hf'])))
  rfl
 ·intro i x hx hf
  have hlt:i<l.length:=(List.getElem?_eq_some_iff.1 hx).1
  simp only [Rest.same] at hf
  have hf':(decide (n.day=x.day)&&decide (n.singer=x.singer))=true:=by rw [← hf];congr 1<;>exact decide_eq_decide.2 eq_comm
  (simp only [go_sem,simprocAttr,a0y,hx,hf,hf'];repeat' ((first|refine brY ?_|refine brN ?_|refine brA ?_|refine brD ?_|refine brF ?_);(try simp only [go_sem,simprocAttr,a0y,hx,hf,hf'])))
 ·simp only [go_sem,simprocAttr,a0y]
 ·cases h:a0z (fun _ x=>Rest.same x n) 0 l with
  | none=>simp only [go_sem,simprocAttr,idxR,h]
  | some q=>obtain ⟨i,x⟩:=q;simp only [go_sem,simprocAttr,idxR,h]
@[go_sem] theorem b5k (k:SK) (l:List Rest) (n:Rest) (hl:l.length<=1000000):K Γ (.fn 155) [.sc (.sl k 2 (l.map Rest.c)),.agg n.c] []=some (vb (l.any (·.same n)),[]):=by
 rw [K_fn P04.f155 _ _ rfl]
 simp only [go_sem,simprocAttr,a1m,b9a k l n hl,b5s]
end
end Go.Pm.St
namespace Go.Pm.St
open Ac
def late (l:List Rest) (i:Nat) (y:Rest):Bool:=decide (0<i)&&(match l[i - 1]? with|some x=>decide (0<=x.cmp y)|none=>false)
def Book.bad (b:Book) (l:List Rest) (i:Nat) (y:Rest):Bool :=
 !b.a2O y.day||(decide (y.day<a2b b.signs)||(!b.a1f y.singer||(b.rests.any (·.same y)||late l i y)))
def Book.a4k (b:Book) (l:List Rest):Bool:=(a0z (b.bad l) 0 l).isNone
section
variable {Γ:Env} [P04 Γ] [G04 Γ]
theorem b4y (b:Book) [hb:b.Fits] (hs:Sane b) (k:SK) (l:List Rest) (hl:l.length<=9223372036854775807):K Γ (.fn 118) [.agg b.c,.sc (.sl k 2 (l.map Rest.c))] []=some (vb (b.a4k l),[]):=by
 have ho:=b0g (Γ:=Γ) b hs
 have hr6:=hs.r6
 have hcon (y:Rest):=b5k (Γ:=Γ) b.kr b.rests y (by omega)
 rw [K_fn P04.f118 _ _ rfl]
 simp only [go_sem,simprocAttr,a5M]
 refine (a4L (fun i=>⟨[(1,.sc (.sl k 2 (l.map Rest.c))),(2,.sc (.ptr 0 0)),(7,.sc (.sl k 2 (l.map Rest.c))),(8,vi l.length),(9,vi i)],[.var b.c]⟩) l (b.bad l)
  (fun i y=>(.ret,⟨[(4,vb false)],[.var b.c,.var y.c]⟩)) (.exit 0,⟨[(1,.sc (.sl k 2 (l.map Rest.c))),(2,.sc (.ptr 0 0)),(7,.sc (.sl k 2 (l.map Rest.c))),(8,vi l.length),(9,vi l.length),(10,vb false)],[.var b.c]⟩) _ ?_ ?_ ?_).trans ?_
 ·intro i y hx hf
  have hlt:i<l.length:=(List.getElem?_eq_some_iff.1 hx).1
  have hi:IntKind.i64.wrap ((i:Int)+1)=i+1:=wrap_i64 (by omega) (by omega)
  simp only [Book.bad,Bool.or_eq_false_iff,Bool.not_eq_false'] at hf
  obtain ⟨h1,h2,h3,h4,h5⟩:=hf
  cases i with
  | zero =>
   (simp only [go_sem,simprocAttr,a0x,hx,hi,ho,hcon,h1,h2,h3,h4];repeat' ((first|refine brY ?_|refine brN ?_|refine brA ?_|refine brD ?_|refine brF ?_);(try simp only [go_sem,simprocAttr,a0x,hx,hi,ho,hcon,h1,h2,h3,h4])))
   first|done|rfl
  | succ j =>
   obtain ⟨x,hj⟩:∃ x,l[j]?=some x:=⟨_,List.getElem?_eq_getElem (by omega)⟩
   have hp:decide ((0:Int)<((j+1:Nat):Int))=true:=decide_eq_true (by omega)
   have hm:IntKind.i64.wrap (((j+1:Nat):Int) - 1)=(j:Int):=by rw [wrap_i64 (by omega) (by omega)];omega
   simp only [late,Nat.add_sub_cancel,hj] at h5
   have h5':decide (0<=x.cmp y)=false:=by simpa using h5
   (simp only [go_sem,simprocAttr,a0x,hx,hi,ho,hcon,h1,h2,h3,h4,hp,hm,hj,h5'];repeat' ((first|refine brY ?_|refine brN ?_|refine brA ?_|refine brD ?_|refine brF ?_);(try simp only [go_sem,simprocAttr,a0x,hx,hi,ho,hcon,h1,h2,h3,h4,hp,hm,hj,h5'])))
   first|done|rfl
 ·intro i y hx hf
  have hlt:i<l.length:=(List.getElem?_eq_some_iff.1 hx).1
  cases h1:b.a2O y.day with
  | false=>(simp only [go_sem,simprocAttr,a0x,hx,ho,hcon,h1];repeat' ((first|refine brY ?_|refine brN ?_|refine brA ?_|refine brD ?_|refine brF ?_);(try simp only [go_sem,simprocAttr,a0x,hx,ho,hcon,h1])))
  | true =>
   cases h2:decide (y.day<a2b b.signs) with
   | true=>(simp only [go_sem,simprocAttr,a0x,hx,ho,hcon,h1,h2];repeat' ((first|refine brY ?_|refine brN ?_|refine brA ?_|refine brD ?_|refine brF ?_);(try simp only [go_sem,simprocAttr,a0x,hx,ho,hcon,h1,h2])))
   | false =>
    cases h3:b.a1f y.singer with
    | false=>(simp only [go_sem,simprocAttr,a0x,hx,ho,hcon,h1,h2,h3];repeat' ((first|refine brY ?_|refine brN ?_|refine brA ?_|refine brD ?_|refine brF ?_);(try simp only [go_sem,simprocAttr,a0x,hx,ho,hcon,h1,h2,h3])))
    | true =>
     cases h4:b.rests.any (·.same y) with
     | true=>(simp only [go_sem,simprocAttr,a0x,hx,ho,hcon,h1,h2,h3,h4];repeat' ((first|refine brY ?_|refine brN ?_|refine brA ?_|refine brD ?_|refine brF ?_);(try simp only [go_sem,simprocAttr,a0x,hx,ho,hcon,h1,h2,h3,h4])))
     | false =>
      simp only [Book.bad,h1,h2,h3,h4,Bool.not_true,Bool.false_or] at hf
      cases i with
      | zero=>simp [late] at hf
      | succ j =>
       obtain ⟨x,hj⟩:∃ x,l[j]?=some x:=⟨_,List.getElem?_eq_getElem (by omega)⟩
       have hp:decide ((0:Int)<((j+1:Nat):Int))=true:=decide_eq_true (by omega)
       have hm:IntKind.i64.wrap (((j+1:Nat):Int) - 1)=(j:Int):=by rw [wrap_i64 (by omega) (by omega)];omega
       simp only [late,Nat.add_sub_cancel,hj] at hf
       have h5':decide (0<=x.cmp y)=true:=by simpa using hf
       (simp only [go_sem,simprocAttr,a0x,hx,ho,hcon,h1,h2,h3,h4,hp,hm,hj,h5'];repeat' ((first|refine brY ?_|refine brN ?_|refine brA ?_|refine brD ?_|refine brF ?_);(try simp only [go_sem,simprocAttr,a0x,hx,ho,hcon,h1,h2,h3,h4,hp,hm,hj,h5'])))
 ·simp only [go_sem,simprocAttr,a0x]
 ·rw [Book.a4k]
  cases h:a0z (b.bad l) 0 l with
  | none=>simp only [go_sem,simprocAttr,Option.isNone_none]
  | some q=>obtain ⟨i,x⟩:=q;simp only [go_sem,simprocAttr,Option.isNone_some]
end
end Go.Pm.St
namespace Go.Pm.St
open Ac
section
variable {Γ:Env} [P04 Γ] [G04 Γ]
end
end Go.Pm.St
namespace Go.Pm.St
open Ac
@[go_sem] theorem d0e (b:Book) (m t:C):a0R (B12 b m t) 1 2=some [ci b.c0.lo,ci b.c0.hi]:=nrfl rfl
@[go_sem] theorem d0f (b:Book) (m t:C):a0R (B12 b m t) 3 2=some [ci b.c1.lo,ci b.c1.hi]:=nrfl rfl
@[go_sem] theorem d0g (b:Book) (m t:C):a0R (B12 b m t) 5 2=some [ci b.c2.lo,ci b.c2.hi]:=nrfl rfl
section
variable {Γ:Env} [P04 Γ] [G04 Γ]
structure Fam (Γ:Env) (b:Book) (m t:C) {σ:Type} (I:Nat->σ->Prop) (step:σ->Cost->σ) (G:σ->List Obj) (N l y f:Nat):Prop where
 len:∀ s,(G s).length=N
 und:∀ s,(G s).all (Obj.under N)=true
 mono:∀ r s,I (r+1) s->I r s
 yl:y<N
 fl:f<N
 gy:∀ s,(G s)[y]?=some (.var [.fn (.yield l) [] [] []])
 gf:∀ s,(G s)[f]?=some (.var [.fn (.fn 196) [] [] [.ptr y 0,.eptr (B12 b m t) 0,.ptr f 0]])
 yield:∀ r s (fr:List Obj) (c:Cost),I (r+1) s->fr.all (Obj.under (N+fr.length))=true->b.c0.has c.p/\b.c1.has c.f/\b.c2.has c.n →
  I r (step s c)/\K Γ (.yield l) [.agg [ci c.p,ci c.f,ci c.n]] (G s++fr)=some (vb true,G (step s c)++fr)
theorem Fam.app {b:Book} {m t:C} {σ:Type} {I:Nat->σ->Prop} {step:σ->Cost->σ} {G:σ->List Obj} {N l y f:Nat} (hF:Fam Γ b m t I step G N l y f) (fr:List Obj) (hfr:fr.all (Obj.under (N+fr.length))=true) :
 Fam Γ b m t I step (fun s=>G s++fr) (N+fr.length) l y f where
 len s:=by simp [hF.len s]
 und s:=by rw [List.all_append,a0Q _ N _ (hF.und s),hfr];rfl
 mono:=hF.mono
 yl:=by have:=hF.yl;omega
 fl:=by have:=hF.fl;omega
 gy s:=by rw [b2M _ _ _ (by rw [hF.len s];exact hF.yl),hF.gy s]
 gf s:=by rw [b2M _ _ _ (by rw [hF.len s];exact hF.fl),hF.gf s]
 yield r s gr c hs hgr h0:=by
  obtain ⟨hi,he⟩:=hF.yield r s (fr++gr) c hs (by
   rw [List.all_append,List.length_append, ← Nat.add_assoc,a0Q _ _ _ hfr,Bool.true_and]
   exact hgr) h0
  refine ⟨hi,?_⟩
  rw [List.append_assoc,he,List.append_assoc]
theorem Fam.less {b:Book} {m t:C} {σ:Type} {I:Nat->σ->Prop} {step:σ->Cost->σ} {G:σ->List Obj} {N l y f:Nat} (hF:Fam Γ b m t I step G N l y f) (r:Nat) (s:σ):∀ (k:Nat),I (r+k) s->I r s
 | 0,h=>h
 | k+1,h=>hF.less r s k (hF.mono _ _ h)
def a7L (Γ:Env) (b:Book) (m t:C) (kind:Int) (cnt:Nat) (pre:Cost->Prop) {σ:Type} (I:Nat->σ->Prop) (step:σ->Cost->σ) (C:σ->Cost->σ):Prop :=
 ∀ (G:σ->List Obj) (N l y f:Nat),Fam Γ b m t I step G N l y f->∀ (r:Nat) (s:σ) (c:Cost),I (r+cnt) s->pre c →
  I r (C s c)/\K Γ (.fn 196) [.agg [ci c.p,ci c.f,ci c.n],vi kind,.sc (.ptr y 0),.sc (.eptr (B12 b m t) 0),.sc (.ptr f 0)] (G s)=some (vb true,G (C s c))
theorem c2f (b:Book) (hsb:Sane b) (m t:C) {σ:Type} (I:Nat->σ->Prop) (step:σ->Cost->σ) :
 a7L Γ b m t 3 1 (fun c=>b.c0.has c.p/\b.c1.has c.f/\b.c2.has c.n) I step step:=by
 intro G N l y f hF r s c hs h0
 obtain ⟨hi,hY⟩:=hF.yield r s [.var [ci c.p,ci c.f,ci c.n]] c hs (by simp only [go_sem,simprocAttr]) h0
 refine ⟨hi,?_⟩
 have hn:=hF.len s
 have hyl:y<(G s).length:=by rw [hn];exact hF.yl
 have hy:=hF.gy s
 have hu:=hF.und (step s c)
 have hn':=hF.len (step s c)
 rw [K_fn P04.f196 _ _ rfl]
 simp only [go_sem,simprocAttr,a1O,hn,a0E,hyl,hy,hF.yl,hY,hn',hu]
def a4Y {σ:Type} (C:σ->Int->σ) (lo:Int) (s:σ) (i:Nat):σ:=(List.range i).foldl (fun s j=>C s (lo+(j:Nat))) s
def a3P {σ:Type} (C:σ->Int->σ) (sp:Span) (s:σ):σ:=a4Y C sp.lo s (sp.hi - sp.lo+1).toNat
theorem a5r {σ:Type} (C:σ->Int->σ) (lo:Int) (s:σ) (i:Nat):a4Y C lo s (i+1)=C (a4Y C lo s i) (lo+i):=by simp [a4Y,List.range_succ]
def F2 {σ:Type} (b:Book) (step:σ->Cost->σ) (s:σ) (c:Cost):σ:=a3P (fun s v=>step s ⟨c.p,c.f,v⟩) b.c2 s
def F1 {σ:Type} (b:Book) (step:σ->Cost->σ) (s:σ) (c:Cost):σ:=a3P (fun s v=>F2 b step s ⟨c.p,v,c.n⟩) b.c1 s
def F0 {σ:Type} (b:Book) (step:σ->Cost->σ) (s:σ) (c:Cost):σ:=a3P (fun s v=>F1 b step s ⟨v,c.f,c.n⟩) b.c0 s
theorem c2e (b:Book) (hsb:Sane b) (m t:C) {σ:Type} (I:Nat->σ->Prop) (step:σ->Cost->σ) :
 a7L Γ b m t 2 2 (fun c=>b.c0.has c.p/\b.c1.has c.f) I step (F2 b step):=by
 show a7L Γ b m t 2 2 _ I step (fun s c=>a3P (fun s v=>step s ⟨c.p,c.f,v⟩) b.c2 s)
 intro G N l y f hF r s c hs hpre
 have hk:=hsb.k2
 have hn:=hF.len s
 have hyl:y<(G s).length:=by rw [hn];exact hF.yl
 have hfl:f<(G s).length:=by rw [hn];exact hF.fl
 have hy:=hF.gy s
 have hf:=hF.gf s
 have hu:=hF.und s
 have hwm:IntKind.i64.wrap (IntKind.i64.wrap (b.c2.hi - b.c2.lo)+1)=b.c2.hi - b.c2.lo+1:=by
  rw [wrap_i64 (x:=b.c2.hi - b.c2.lo) (by omega) (by omega),wrap_i64 (by omega) (by omega)]
 have hnext:=c2f (Γ:=Γ) b hsb m t I step
 have hstI:∀ r s v,I (r+1) s->b.c2.lo<=v/\v<=b.c2.hi->I r (step s ⟨c.p,c.f,v⟩):=fun r s v hI hv=>(hnext _ _ _ _ _ hF r s ⟨c.p,c.f,v⟩ hI ⟨hpre.1,hpre.2,hv⟩).1
 have hlI:∀ (i:Nat),i<=(b.c2.hi - b.c2.lo+1).toNat->I (r+1*(2 - i)) (a4Y (fun s v=>step s ⟨c.p,c.f,v⟩) b.c2.lo s i):=by
  intro i
  induction i with
  | zero=>intro _;exact hs
  | succ i ih =>
   intro hi
   rw [a5r]
   refine hstI _ _ _ ?_ (by omega)
   have:=ih (by omega)
   rwa [show r+1*(2 - i)=r+1*(2 - (i+1))+1 by omega] at this
 refine ⟨hF.less _ _ _ (hlI _ (Nat.le_refl _)),?_⟩
 rw [K_fn P04.f196 _ _ rfl]
 simp only [go_sem,simprocAttr,a1O,hn,a0E,hyl,hfl,hf,hy,hF.yl,hF.fl,hu,hwm]
 refine b0t (b.c2.hi - b.c2.lo+1).toNat (fun i (a:Int)=>⟨[(1,vi 2),(4,.sc (.ptr f 0)),(5,.sc (.ptr N 0)),(8,.sc (.ptr (N+1) 0)),(25,vi (b.c2.hi - b.c2.lo+1)),(26,vi i)],
  G (a4Y (fun s v=>step s ⟨c.p,c.f,v⟩) b.c2.lo s i)++[.var [ci c.p,ci c.f,ci a],.var [ci b.c2.lo,ci b.c2.hi]]⟩) (fun _ _=>True)
  (fun a=>(.exit 0,⟨[(1,vi 2),(4,.sc (.ptr f 0)),(5,.sc (.ptr N 0)),(8,.sc (.ptr (N+1) 0)),(25,vi (b.c2.hi - b.c2.lo+1)),(26,vi (b.c2.hi - b.c2.lo+1)),(27,vb false)],
   G (a3P (fun s v=>step s ⟨c.p,c.f,v⟩) b.c2 s)++[.var [ci c.p,ci c.f,ci a],.var [ci b.c2.lo,ci b.c2.hi]]⟩)) c.n trivial ?_ ?_ ?_
 ·intro i a hi _
  have hiw:IntKind.i64.wrap ((i:Int)+1)=i+1:=wrap_i64 (by omega) (by omega)
  have hnw:IntKind.i64.wrap (b.c2.lo+i)=b.c2.lo+i:=wrap_i64 (by omega) (by omega)
  have hlt:decide ((i:Int)<b.c2.hi - b.c2.lo+1)=true:=decide_eq_true (by omega)
  have hou:=a5r (fun s v=>step s ⟨c.p,c.f,v⟩) b.c2.lo s i
  have hI:=hlI i (by omega)
  rw [show r+1*(2 - i)=r+1*(2 - (i+1))+1 by omega] at hI
  generalize hs':a4Y (fun s v=>step s ⟨c.p,c.f,v⟩) b.c2.lo s i=s' at *
  have hF':=hF.app [.var [ci c.p,ci c.f,ci (b.c2.lo+i)],.var [ci b.c2.lo,ci b.c2.hi]] (by simp only [go_sem,simprocAttr])
  obtain ⟨hIs,hC⟩:=hnext _ _ _ _ _ hF' _ s' ⟨c.p,c.f,b.c2.lo+i⟩ hI ⟨hpre.1,hpre.2,(show b.c2.has (b.c2.lo+i) from ⟨by omega,by omega⟩)⟩
  have hn1:=hF.len s'
  have hu1:=hF.und s'
  have hf2:=hF.gf s'
  have hfl2:f<(G s').length:=by rw [hn1];exact hF.fl
  have hn3:=hF.len (step s' ⟨c.p,c.f,b.c2.lo+i⟩)
  have hu3:=hF.und (step s' ⟨c.p,c.f,b.c2.lo+i⟩)
  refine ⟨b.c2.lo+i,trivial,?_⟩
  rw [hou]
  (simp only [go_sem,simprocAttr,a0u,hn1,a0E,hlt,hnw,hiw,hfl2,hf2,hF.fl,hF.yl,hC,hn3,hu3,a0Q];repeat' ((first|refine brY ?_|refine brN ?_|refine brA ?_|refine brD ?_|refine brF ?_);(try simp only [go_sem,simprocAttr,a0u,hn1,a0E,hlt,hnw,hiw,hfl2,hf2,hF.fl,hF.yl,hC,hn3,hu3,a0Q])))
  rfl
 ·intro a _
  have hm:((b.c2.hi - b.c2.lo+1).toNat:Int)=b.c2.hi - b.c2.lo+1:=by omega
  simp only [hm]
  (simp only [go_sem,simprocAttr,a0u];repeat' ((first|refine brY ?_|refine brN ?_|refine brA ?_|refine brD ?_|refine brF ?_);(try simp only [go_sem,simprocAttr,a0u])))
  rfl
 ·intro a _
  have hn':=hF.len (a3P (fun s v=>step s ⟨c.p,c.f,v⟩) b.c2 s)
  have hu':=hF.und (a3P (fun s v=>step s ⟨c.p,c.f,v⟩) b.c2 s)
  simp only [go_sem,simprocAttr,hn',a0E,hn,hu']
theorem c2d (b:Book) (hsb:Sane b) (m t:C) {σ:Type} (I:Nat->σ->Prop) (step:σ->Cost->σ) :
 a7L Γ b m t 1 4 (fun c=>b.c0.has c.p) I step (F1 b step):=by
 show a7L Γ b m t 1 4 _ I step (fun s c=>a3P (fun s v=>F2 b step s ⟨c.p,v,c.n⟩) b.c1 s)
 intro G N l y f hF r s c hs hpre
 have hk:=hsb.k1
 have hn:=hF.len s
 have hyl:y<(G s).length:=by rw [hn];exact hF.yl
 have hfl:f<(G s).length:=by rw [hn];exact hF.fl
 have hy:=hF.gy s
 have hf:=hF.gf s
 have hu:=hF.und s
 have hwm:IntKind.i64.wrap (IntKind.i64.wrap (b.c1.hi - b.c1.lo)+1)=b.c1.hi - b.c1.lo+1:=by
  rw [wrap_i64 (x:=b.c1.hi - b.c1.lo) (by omega) (by omega),wrap_i64 (by omega) (by omega)]
 have hnext:=c2e (Γ:=Γ) b hsb m t I step
 have hstI:∀ r s v,I (r+2) s->b.c1.lo<=v/\v<=b.c1.hi->I r (F2 b step s ⟨c.p,v,c.n⟩):=fun r s v hI hv=>(hnext _ _ _ _ _ hF r s ⟨c.p,v,c.n⟩ hI ⟨hpre,hv⟩).1
 have hlI:∀ (i:Nat),i<=(b.c1.hi - b.c1.lo+1).toNat->I (r+2*(2 - i)) (a4Y (fun s v=>F2 b step s ⟨c.p,v,c.n⟩) b.c1.lo s i):=by
  intro i
  induction i with
  | zero=>intro _;exact hs
  | succ i ih =>
   intro hi
   rw [a5r]
   refine hstI _ _ _ ?_ (by omega)
   have:=ih (by omega)
   rwa [show r+2*(2 - i)=r+2*(2 - (i+1))+2 by omega] at this
 refine ⟨hF.less _ _ _ (hlI _ (Nat.le_refl _)),?_⟩
 rw [K_fn P04.f196 _ _ rfl]
 simp only [go_sem,simprocAttr,a1O,hn,a0E,hyl,hfl,hf,hy,hF.yl,hF.fl,hu,hwm]
 refine b0t (b.c1.hi - b.c1.lo+1).toNat (fun i (a:Int)=>⟨[(1,vi 1),(4,.sc (.ptr f 0)),(5,.sc (.ptr N 0)),(8,.sc (.ptr (N+1) 0)),(25,vi (b.c1.hi - b.c1.lo+1)),(26,vi i)],
  G (a4Y (fun s v=>F2 b step s ⟨c.p,v,c.n⟩) b.c1.lo s i)++[.var [ci c.p,ci a,ci c.n],.var [ci b.c1.lo,ci b.c1.hi]]⟩) (fun _ _=>True)
  (fun a=>(.exit 0,⟨[(1,vi 1),(4,.sc (.ptr f 0)),(5,.sc (.ptr N 0)),(8,.sc (.ptr (N+1) 0)),(25,vi (b.c1.hi - b.c1.lo+1)),(26,vi (b.c1.hi - b.c1.lo+1)),(27,vb false)],
   G (a3P (fun s v=>F2 b step s ⟨c.p,v,c.n⟩) b.c1 s)++[.var [ci c.p,ci a,ci c.n],.var [ci b.c1.lo,ci b.c1.hi]]⟩)) c.f trivial ?_ ?_ ?_
 ·intro i a hi _
  have hiw:IntKind.i64.wrap ((i:Int)+1)=i+1:=wrap_i64 (by omega) (by omega)
  have hnw:IntKind.i64.wrap (b.c1.lo+i)=b.c1.lo+i:=wrap_i64 (by omega) (by omega)
  have hlt:decide ((i:Int)<b.c1.hi - b.c1.lo+1)=true:=decide_eq_true (by omega)
  have hou:=a5r (fun s v=>F2 b step s ⟨c.p,v,c.n⟩) b.c1.lo s i
  have hI:=hlI i (by omega)
  rw [show r+2*(2 - i)=r+2*(2 - (i+1))+2 by omega] at hI
  generalize hs':a4Y (fun s v=>F2 b step s ⟨c.p,v,c.n⟩) b.c1.lo s i=s' at *
  have hF':=hF.app [.var [ci c.p,ci (b.c1.lo+i),ci c.n],.var [ci b.c1.lo,ci b.c1.hi]] (by simp only [go_sem,simprocAttr])
  obtain ⟨hIs,hC⟩:=hnext _ _ _ _ _ hF' _ s' ⟨c.p,b.c1.lo+i,c.n⟩ hI ⟨hpre,(show b.c1.has (b.c1.lo+i) from ⟨by omega,by omega⟩)⟩
  have hn1:=hF.len s'
  have hu1:=hF.und s'
  have hf2:=hF.gf s'
  have hfl2:f<(G s').length:=by rw [hn1];exact hF.fl
  have hn3:=hF.len (F2 b step s' ⟨c.p,b.c1.lo+i,c.n⟩)
  have hu3:=hF.und (F2 b step s' ⟨c.p,b.c1.lo+i,c.n⟩)
  refine ⟨b.c1.lo+i,trivial,?_⟩
  rw [hou]
  (simp only [go_sem,simprocAttr,a0u,hn1,a0E,hlt,hnw,hiw,hfl2,hf2,hF.fl,hF.yl,hC,hn3,hu3,a0Q];repeat' ((first|refine brY ?_|refine brN ?_|refine brA ?_|refine brD ?_|refine brF ?_);(try simp only [go_sem,simprocAttr,a0u,hn1,a0E,hlt,hnw,hiw,hfl2,hf2,hF.fl,hF.yl,hC,hn3,hu3,a0Q])))
  rfl
 ·intro a _
  have hm:((b.c1.hi - b.c1.lo+1).toNat:Int)=b.c1.hi - b.c1.lo+1:=by omega
  simp only [hm]
  (simp only [go_sem,simprocAttr,a0u];repeat' ((first|refine brY ?_|refine brN ?_|refine brA ?_|refine brD ?_|refine brF ?_);(try simp only [go_sem,simprocAttr,a0u])))
  rfl
 ·intro a _
  have hn':=hF.len (a3P (fun s v=>F2 b step s ⟨c.p,v,c.n⟩) b.c1 s)
  have hu':=hF.und (a3P (fun s v=>F2 b step s ⟨c.p,v,c.n⟩) b.c1 s)
  simp only [go_sem,simprocAttr,hn',a0E,hn,hu']
theorem c2c (b:Book) (hsb:Sane b) (m t:C) {σ:Type} (I:Nat->σ->Prop) (step:σ->Cost->σ) :
 a7L Γ b m t 0 8 (fun c=>True) I step (F0 b step):=by
 show a7L Γ b m t 0 8 _ I step (fun s c=>a3P (fun s v=>F1 b step s ⟨v,c.f,c.n⟩) b.c0 s)
 intro G N l y f hF r s c hs hpre
 have hk:=hsb.k0
 have hn:=hF.len s
 have hyl:y<(G s).length:=by rw [hn];exact hF.yl
 have hfl:f<(G s).length:=by rw [hn];exact hF.fl
 have hy:=hF.gy s
 have hf:=hF.gf s
 have hu:=hF.und s
 have hwm:IntKind.i64.wrap (IntKind.i64.wrap (b.c0.hi - b.c0.lo)+1)=b.c0.hi - b.c0.lo+1:=by
  rw [wrap_i64 (x:=b.c0.hi - b.c0.lo) (by omega) (by omega),wrap_i64 (by omega) (by omega)]
 have hnext:=c2d (Γ:=Γ) b hsb m t I step
 have hstI:∀ r s v,I (r+4) s->b.c0.lo<=v/\v<=b.c0.hi->I r (F1 b step s ⟨v,c.f,c.n⟩):=fun r s v hI hv=>(hnext _ _ _ _ _ hF r s ⟨v,c.f,c.n⟩ hI hv).1
 have hlI:∀ (i:Nat),i<=(b.c0.hi - b.c0.lo+1).toNat->I (r+4*(2 - i)) (a4Y (fun s v=>F1 b step s ⟨v,c.f,c.n⟩) b.c0.lo s i):=by
  intro i
  induction i with
  | zero=>intro _;exact hs
  | succ i ih =>
   intro hi
   rw [a5r]
   refine hstI _ _ _ ?_ (by omega)
   have:=ih (by omega)
   rwa [show r+4*(2 - i)=r+4*(2 - (i+1))+4 by omega] at this
 refine ⟨hF.less _ _ _ (hlI _ (Nat.le_refl _)),?_⟩
 rw [K_fn P04.f196 _ _ rfl]
 simp only [go_sem,simprocAttr,a1O,hn,a0E,hyl,hfl,hf,hy,hF.yl,hF.fl,hu,hwm]
 refine b0t (b.c0.hi - b.c0.lo+1).toNat (fun i (a:Int)=>⟨[(1,vi 0),(4,.sc (.ptr f 0)),(5,.sc (.ptr N 0)),(8,.sc (.ptr (N+1) 0)),(25,vi (b.c0.hi - b.c0.lo+1)),(26,vi i)],
  G (a4Y (fun s v=>F1 b step s ⟨v,c.f,c.n⟩) b.c0.lo s i)++[.var [ci a,ci c.f,ci c.n],.var [ci b.c0.lo,ci b.c0.hi]]⟩) (fun _ _=>True)
  (fun a=>(.exit 0,⟨[(1,vi 0),(4,.sc (.ptr f 0)),(5,.sc (.ptr N 0)),(8,.sc (.ptr (N+1) 0)),(25,vi (b.c0.hi - b.c0.lo+1)),(26,vi (b.c0.hi - b.c0.lo+1)),(27,vb false)],
   G (a3P (fun s v=>F1 b step s ⟨v,c.f,c.n⟩) b.c0 s)++[.var [ci a,ci c.f,ci c.n],.var [ci b.c0.lo,ci b.c0.hi]]⟩)) c.p trivial ?_ ?_ ?_
 ·intro i a hi _
  have hiw:IntKind.i64.wrap ((i:Int)+1)=i+1:=wrap_i64 (by omega) (by omega)
  have hnw:IntKind.i64.wrap (b.c0.lo+i)=b.c0.lo+i:=wrap_i64 (by omega) (by omega)
  have hlt:decide ((i:Int)<b.c0.hi - b.c0.lo+1)=true:=decide_eq_true (by omega)
  have hou:=a5r (fun s v=>F1 b step s ⟨v,c.f,c.n⟩) b.c0.lo s i
  have hI:=hlI i (by omega)
  rw [show r+4*(2 - i)=r+4*(2 - (i+1))+4 by omega] at hI
  generalize hs':a4Y (fun s v=>F1 b step s ⟨v,c.f,c.n⟩) b.c0.lo s i=s' at *
  have hF':=hF.app [.var [ci (b.c0.lo+i),ci c.f,ci c.n],.var [ci b.c0.lo,ci b.c0.hi]] (by simp only [go_sem,simprocAttr])
  obtain ⟨hIs,hC⟩:=hnext _ _ _ _ _ hF' _ s' ⟨b.c0.lo+i,c.f,c.n⟩ hI (show b.c0.has (b.c0.lo+i) from ⟨by omega,by omega⟩)
  have hn1:=hF.len s'
  have hu1:=hF.und s'
  have hf2:=hF.gf s'
  have hfl2:f<(G s').length:=by rw [hn1];exact hF.fl
  have hn3:=hF.len (F1 b step s' ⟨b.c0.lo+i,c.f,c.n⟩)
  have hu3:=hF.und (F1 b step s' ⟨b.c0.lo+i,c.f,c.n⟩)
  refine ⟨b.c0.lo+i,trivial,?_⟩
  rw [hou]
  (simp only [go_sem,simprocAttr,a0u,hn1,a0E,hlt,hnw,hiw,hfl2,hf2,hF.fl,hF.yl,hC,hn3,hu3,a0Q];repeat' ((first|refine brY ?_|refine brN ?_|refine brA ?_|refine brD ?_|refine brF ?_);(try simp only [go_sem,simprocAttr,a0u,hn1,a0E,hlt,hnw,hiw,hfl2,hf2,hF.fl,hF.yl,hC,hn3,hu3,a0Q])))
  rfl
 ·intro a _
  have hm:((b.c0.hi - b.c0.lo+1).toNat:Int)=b.c0.hi - b.c0.lo+1:=by omega
  simp only [hm]
  (simp only [go_sem,simprocAttr,a0u];repeat' ((first|refine brY ?_|refine brN ?_|refine brA ?_|refine brD ?_|refine brF ?_);(try simp only [go_sem,simprocAttr,a0u])))
  rfl
 ·intro a _
  have hn':=hF.len (a3P (fun s v=>F1 b step s ⟨v,c.f,c.n⟩) b.c0 s)
  have hu':=hF.und (a3P (fun s v=>F1 b step s ⟨v,c.f,c.n⟩) b.c0 s)
  simp only [go_sem,simprocAttr,hn',a0E,hn,hu']
theorem b8c (b:Book) (hsb:Sane b) (m t:C) (hmt:C.a0v [m,t]=true) {σ:Type} (I:Nat->σ->Prop) (step:σ->Cost->σ)
 (G:σ->List Obj) (N l:Nat) (hl:l<N) (len:∀ s,(G s).length=N) (und:∀ s,(G s).all (Obj.under N)=true) (mono:∀ r s,I (r+1) s->I r s)
 (yield:∀ r s (fr:List Obj) (c:Cost),I (r+1) s->fr.all (Obj.under (N+fr.length))=true->b.c0.has c.p/\b.c1.has c.f/\b.c2.has c.n →
  I r (step s c)/\K Γ (.yield l) [.agg [ci c.p,ci c.f,ci c.n]] (G s++fr)=some (vb true,G (step s c)++fr)) (r:Nat) (s:σ) (hs:I (r+8) s) :
 I r (F0 b step s ⟨0,0,0⟩)/\K Γ (.fn 190) [.sc (.fn (.yield l) [] [] []),.sc (.eptr (B12 b m t) 0)] (G s)=some (.tup [],G (F0 b step s ⟨0,0,0⟩)):=by
 have hu0 (n:Nat):C.a0G n [m,t]=true:=a0C n _ hmt
 have hF:Fam Γ b m t I step (fun s=>G s++[.var [.fn (.yield l) [] [] []],.var [.fn (.fn 196) [] [] [.ptr N 0,.eptr (B12 b m t) 0,.ptr (N+1) 0]]]) (N+2) l N (N+1) :=
  {len:=fun s=>by simp [len s]
   und:=fun s=>by
    rw [List.all_append,a0Q _ N 2 (und s)]
    simp [go_sem];omega
   mono:=mono
   yl:=by omega
   fl:=by omega
   gy:=fun s=>by rw [b5P _ _ _ (len s)];rfl
   gf:=fun s=>by rw [b2L _ _ _ _ (len s)];rfl
   yield:=fun r s fr c hs hfr h0=>by
    obtain ⟨hi,he⟩:=yield r s ([.var [.fn (.yield l) [] [] []],.var [.fn (.fn 196) [] [] [.ptr N 0,.eptr (B12 b m t) 0,.ptr (N+1) 0]]]++fr) c hs (by
     rw [List.all_append,List.length_append]
     rw [show N+([Obj.var [C.fn (.yield l) [] [] []],.var [.fn (.fn 196) [] [] [.ptr N 0,.eptr (B12 b m t) 0,.ptr (N+1) 0]]].length+fr.length)=N+2+fr.length by simp;omega,hfr]
     simp [go_sem];omega) h0
    refine ⟨hi,?_⟩
    rw [List.append_assoc,he,List.append_assoc] }
 obtain ⟨hI,hC⟩:=c2c (Γ:=Γ) b hsb m t I step _ _ _ _ _ hF r s ⟨0,0,0⟩ hs trivial
 refine ⟨hI,?_⟩
 have hn:=len s
 have hn2:=len (F0 b step s ⟨0,0,0⟩)
 replace hC:=hC.trans (show _=some (vb true,G (F0 b step s ⟨0,0,0⟩)++[.var [.fn (.yield l) [] [] []],.var [.fn (.fn 196) [] [] [.ptr N 0,.eptr (B12 b m t) 0,.ptr (N+1) 0]]]) from rfl)
 have hu2:=und (F0 b step s ⟨0,0,0⟩)
 rw [K_fn P04.f190 _ _ rfl]
 simp only [go_sem,simprocAttr,a3u,hn,a0E,hC,hn2,hu2]
theorem b9u (b:Book) (m t:C) (hmt:C.a0v [m,t]=true):K Γ (.fn 172) [.agg (B12 b m t)] []=some (.sc (.fn (.fn 190) [] [] [.eptr (B12 b m t) 0]),[]):=by
 have hu0 (n:Nat):C.a0G n (B12 b m t)=true:=a0C n _ (a2S b m t hmt)
 have hp:=a2S b m t hmt
 have hmt':=hmt
 simp only [C.a0v,Bool.and_true,Bool.and_eq_true] at hmt'
 have hun:=b1q b m t (a9r m hmt'.1) (a9r t hmt'.2)
 rw [K_fn P04.f172 _ _ rfl]
 simp only [go_sem,simprocAttr,a3W,hp,hu0,hun]
end
theorem b6D {σ:Type} (C:σ->Int->σ) (sp:Span) (s:σ):a3P C sp s=(upto sp.lo sp.hi).foldl C s:=by
 simp only [a3P,a4Y,upto,List.foldl_map]
theorem foldl_flatMap {α β σ:Type} (f:σ->β->σ) (g:α->List β):∀ (l:List α) (s:σ),(l.flatMap g).foldl f s=l.foldl (fun s a=>(g a).foldl f s) s
 | [],_=>rfl
 | a::l,s=>by simp only [List.flatMap_cons,List.foldl_append,List.foldl_cons];exact foldl_flatMap f g l _
theorem b7h {σ:Type} (b:Book) (step:σ->Cost->σ) (s:σ):F0 b step s ⟨0,0,0⟩=b.a8a.foldl step s:=by
 simp only [F0,F1,F2,b6D,Book.a8a,foldl_flatMap,List.foldl_map]
end Go.Pm.St
namespace Go.Pm.St
open Ac
/-! ### Who rests when, as a set -/
theorem b5f:∀ (l:List Rest) (f:List Int->Bool) (e:Nat) (i:Int),a1M f l [(e:Int),i]=(f [(e:Int),i]||a2Y l i e)
 | [],f,e,i=>by simp [a1M,a2Y]
 | x::l,f,e,i=>by
  have ih:=b5f l (addR f x) e i
  simp only [a1M,List.foldl_cons] at ih ⊢
  rw [ih]
  simp only [addR,a2Y,List.any_cons]
  split
  ·rename_i h
   have:decide (x.day=(e:Int))=false:=decide_eq_false (by omega)
   simp [this]
  ·have:decide ([(e:Int),i]=[x.day,x.singer])=(decide (x.day=(e:Int))&&decide (x.singer=i)):=by
    by_cases h1:x.day=(e:Int)<;>by_cases h2:x.singer=i<;>simp [h1,h2]
    ·intro h;exact absurd h.symm h2
    ·intro h;exact absurd h.symm h1
    ·intro h;exact absurd h.symm h1
   show (f [(e:Int),i]||decide ([(e:Int),i]=[x.day,x.singer])||_)=_
   rw [this,Bool.or_assoc]
def Book.F (b:Book):List Int->Bool:=a1M (fun _=>false) b.rests
theorem F_at (b:Book) (e:Nat) (i:Int):b.F [(e:Int),i]=a2Y b.rests i e:=by rw [Book.F,b5f];rfl
@[go_sem] theorem c7D (b:Book):a1H [.sl .nil 2 [],ci 0,ci 0,ci 0,ci 0,ci 0,ci 0,.sl .nil 3 [],.sl .nil 2 [],.sl .nil 4 [],.imap true false [],.sl .nil 4 []] 0 b.c=B12 b (.imap true false []) (.sl .nil 4 []):=nrfl rfl
@[go_sem] theorem c7F (b:Book) (m t:C) (z0 z1 z2 z3 z4 z5 z6 z7 z8 z9 z10 z11:C):a1H [z0,z1,z2,z3,z4,z5,z6,z7,z8,z9,z10,z11] 0 (B12 b m t)=B12 b m t:=nrfl rfl
@[go_sem] theorem d0R (b:Book) (m m' t:C):(B12 b m t).set 10 m'=B12 b m' t:=nrfl rfl
@[go_sem] theorem c7E (b:Book) (m t:C):List.take 12 (B12 b m t)=B12 b m t:=nrfl rfl
@[go_sem] theorem c7C (b:Book) (m t:C):List.drop 12 (B12 b m t)=[]:=nrfl rfl
/-! ### Truths in places -/
abbrev li (l:List Int):List (List C):=l.map fun x=>[ci x]
theorem b7L (l:List Int):(li l).length=l.length:=by simp [li]
def strC (l:List Int):C:=.sl .shared 1 (li l)
def a1g (t:Truth):List C:=[ci t.1.p,ci t.1.f,ci t.1.n,.sl .shared 1 (t.2.map fun l=>[strC l])]
def a4V (ts:List Truth):C:=ownC 4 (ts.map a1g)
def a3b (b:Book):C:=.fn (.fn 171) [some 12] (B12 b (.iset 2 b.F) (.sl .nil 4 [])) []
abbrev a7Z (b:Book) (ts:List Truth):List C:=B12 b (.iset 2 b.F) (a4V ts)
theorem b3q (es:Nat) (x:List C) (l:List (List C)):ownC es (x::l)=.own false es (x::l):=rfl
theorem b9p (es:Nat):ownC es []=.sl .nil es []:=rfl
def strN (b:Book) (c:Cost) (i:Int) (but:List Int) (lo:Int) (j:Nat):List Int:=((List.range j).map fun (k:Nat)=>lo+(k:Int)).filter fun n=>b.right c i n fun n=>but.contains n
theorem b8l (b:Book) (c:Cost) (i:Int) (but:List Int) (lo:Int) (j:Nat):strN b c i but lo (j+1)=if b.right c i (lo+j) (fun n=>but.contains n)=true then strN b c i but lo j++[lo+(j:Int)] else strN b c i but lo j:=by
 simp only [strN,List.range_succ,List.map_append,List.map_cons,List.map_nil,List.filter_append,List.filter_cons,List.filter_nil]
 split<;>simp
theorem b9P (b:Book) (c:Cost) (i:Nat) (but:List Int) {s:Span} (hs:b.singers[i]?=some s):strN b c i but s.lo (s.hi - s.lo+1).toNat=b.a1B c i fun n=>but.contains n:=by
 simp only [strN,Book.a1B,hs,upto]
theorem b9Q (b:Book) (c:Cost) (i:Int) (but:List Int) (lo:Int) (j:Nat):(strN b c i but lo j).length<=j:=by
 refine Nat.le_trans (List.length_filter_le _ _) (by simp)
theorem b3j (l:List Int) (n:Int):li (l++[n])=li l++[[ci n]]:=by simp [li]
section
variable {Γ:Env} [P04 Γ] [G04 Γ]
abbrev kp (M:Nat) (b:Book) (r:List (Nat × V)):List (Nat × V):=(3,.sc (.ptr 1 0))::(5,.sc (.ptr 4 0))::(6,.sc (.ptr 5 0))::(7,.sc (.ptr M 0))::(8,.sc (.ptr (M+1) 0))::r
theorem b3p (b:Book) (hs:Sane b) (k:SK) (but:List Int) (hbut:but.length<=1000000) (c:Cost) (h0:b.c0.has c.p) (h1:b.c1.has c.f) (h2:b.c2.has c.n) (i:Nat) (s:Span) (hi:b.singers[i]?=some s)
 (H:List Obj) (M:Nat) (hn:H.length=M) (h6:6<=M) (hb1:H[1]?=some (.var [.sl k 1 (li but)])) (hb5:H[5]?=some (.var [a3b b])) (hu:H.all (Obj.under M)=true) (st:C) (hst:∀ n,C.under n st=true) {β:Type} (Q:Ex->St->Option β) :
 E Γ a8c ⟨kp M b [(9,vi i),(10,.sc (.ptr (M+2) 0)),(11,.sc (.sl .nil 1 [])),(12,vi s.lo),(27,.sc (.sl b.ks 2 (b.singers.map Span.c))),(28,vi b.singers.length),(29,vi i)],H++[.var [ci c.p,ci c.f,ci c.n],.var [ci c.p,ci c.f,ci c.n,st],.var s.c]⟩ Q =
 Q (.exit 4) ⟨kp M b [(9,vi i),(10,.sc (.ptr (M+2) 0)),(11,.sc (ownC 1 (li (b.a1B c i fun n=>but.contains n)))),(12,vi (s.hi+1)),(27,.sc (.sl b.ks 2 (b.singers.map Span.c))),(28,vi b.singers.length),(29,vi i),(39,vb false)],H++[.var [ci c.p,ci c.f,ci c.n],.var [ci c.p,ci c.f,ci c.n,st],.var s.c]⟩:=by
 have hsp:=hs.sp s (List.mem_of_getElem? hi)
 have hl1:1<H.length:=by omega
 have hl5:5<H.length:=by omega
 have hm1:1<M:=by omega
 have hm4:4<M:=by omega
 have hm5:5<M:=by omega
 refine a4q (s.hi - s.lo+1).toNat (fun j (_:Unit)=>⟨kp M b [(9,vi i),(10,.sc (.ptr (M+2) 0)),(11,.sc (ownC 1 (li (strN b c i but s.lo j)))),(12,vi (s.lo+j)),(27,.sc (.sl b.ks 2 (b.singers.map Span.c))),(28,vi b.singers.length),(29,vi i)],H++[.var [ci c.p,ci c.f,ci c.n],.var [ci c.p,ci c.f,ci c.n,st],.var s.c]⟩) (fun _ _=>True)
  (fun _=>(.exit 4,⟨kp M b [(9,vi i),(10,.sc (.ptr (M+2) 0)),(11,.sc (ownC 1 (li (b.a1B c i fun n=>but.contains n)))),(12,vi (s.hi+1)),(27,.sc (.sl b.ks 2 (b.singers.map Span.c))),(28,vi b.singers.length),(29,vi i),(39,vb false)],H++[.var [ci c.p,ci c.f,ci c.n],.var [ci c.p,ci c.f,ci c.n,st],.var s.c]⟩)) () ?_ trivial ?_ ?_ (fun _ _=>rfl)
 ·simp [strN,li,ownC]
 ·intro j _ hj _
  refine ⟨(),trivial,?_⟩
  have hle:decide (s.lo+(j:Int)<=s.hi)=true:=decide_eq_true (by omega)
  have hjw:IntKind.i64.wrap (s.lo+(j:Int)+1)=s.lo+((j+1:Nat):Int):=by rw [wrap_i64 (by omega) (by omega)];omega
  have hR:=c1k (Γ:=Γ) b hs b.F (F_at b) (.sl .nil 4 []) rfl c h0 h1 h2 i (s.lo+j) (by omega) k but hbut
  have hBu (n:Nat):C.a0G n (B12 b (.iset 2 b.F) (.sl .nil 4 []))=true:=a0C n _ (a2S b _ _ rfl)
  have hBp:C.a0v (B12 b (.iset 2 b.F) (.sl .nil 4 []))=true:=a2S b _ _ rfl
  have hBl:(B12 b (.iset 2 b.F) (.sl .nil 4 [])).length=12:=rfl
  have happ:=a2K 1 (li (strN b c i but s.lo j)) .full [ci (s.lo+j)] (by rw [b7L];have:=b9Q b c i but s.lo j;simp only [room];omega)
  rw [b8l]
  have hlb:(fun x:Int=>[C.int .i64 x])=fun x=>[ci x]:=rfl
  cases hr:b.right c i (s.lo+j) (fun n=>but.contains n) with
  | true =>
   simp only [hr] at hR
   simp only [if_true,b3j]
   (simp only [go_sem,simprocAttr,a1Q,hn,a0E,hl1,hl5,hm1,hm4,hm5,hb1,hb5,hle,hjw,a3b,hR,hBu,hBp,hBl,happ,hst,hu,a0Q,List.map_nil,List.append_nil];repeat' ((first|refine brY ?_|refine brN ?_|refine brA ?_|refine brD ?_|refine brF ?_);(try simp only [go_sem,simprocAttr,a1Q,hn,a0E,hl1,hl5,hm1,hm4,hm5,hb1,hb5,hle,hjw,a3b,hR,hBu,hBp,hBl,happ,hst,hu,a0Q,List.map_nil,List.append_nil])))
  | false =>
   simp only [hr] at hR
   simp only [Bool.false_eq_true,if_false]
   (simp only [go_sem,simprocAttr,a1Q,hn,a0E,hl1,hl5,hm1,hm4,hm5,hb1,hb5,hle,hjw,a3b,hR,hBu,hBp,hBl,hst,hu,a0Q,List.map_nil,List.append_nil];repeat' ((first|refine brY ?_|refine brN ?_|refine brA ?_|refine brD ?_|refine brF ?_);(try simp only [go_sem,simprocAttr,a1Q,hn,a0E,hl1,hl5,hm1,hm4,hm5,hb1,hb5,hle,hjw,a3b,hR,hBu,hBp,hBl,hst,hu,a0Q,List.map_nil,List.append_nil])))
 ·intro _ _
  have hm:s.lo+((s.hi - s.lo+1).toNat:Int)=s.hi+1:=by omega
  have hle:decide (s.hi+1<=s.hi)=false:=decide_eq_false (by omega)
  rw [hm,b9P b c i but hi]
  simp only [go_sem,simprocAttr,a1Q,hn,a0E,hle]
def a3h (b:Book) (c:Cost) (but:List Int) (i:Nat):List (List Int):=(List.range i).map fun i=>b.a1B c i fun n=>but.contains n
theorem b4Y (b:Book) (c:Cost) (but:List Int) (i:Nat):a3h b c but (i+1)=a3h b c but i++[b.a1B c i fun n=>but.contains n]:=by simp [a3h,List.range_succ]
def lc (l:List (List Int)):List (List C):=l.map fun l=>[strC l]
theorem b7I (l:List (List Int)) (x:List Int):lc (l++[x])=lc l++[[strC x]]:=by simp [lc]
theorem b8b (b:Book) [hb:b.Fits] (hs:Sane b) (k:SK) (but:List Int) (hbut:but.length<=1000000) (c:Cost) (h0:b.c0.has c.p) (h1:b.c1.has c.f) (h2:b.c2.has c.n)
 (H:List Obj) (M:Nat) (hn:H.length=M) (h6:6<=M) (hb1:H[1]?=some (.var [.sl k 1 (li but)])) (hb5:H[5]?=some (.var [a3b b])) (hu:H.all (Obj.under M)=true) {β:Type} (Q:Ex->St->Option β) :
 E Γ a5V ⟨kp M b [(27,.sc (.sl b.ks 2 (b.singers.map Span.c))),(28,vi b.singers.length),(29,vi 0)],H++[.var [ci c.p,ci c.f,ci c.n],.var [ci c.p,ci c.f,ci c.n,.sl .nil 1 []]]⟩ Q =
 match a0z (fun i _=>(b.a1B c i fun n=>but.contains n).isEmpty) 0 b.singers with
 | some (i,s)=>Q (.exit 1) ⟨kp M b [(11,.sc (.sl .nil 1 [])),(27,.sc (.sl b.ks 2 (b.singers.map Span.c))),(28,vi b.singers.length),(29,vi i),(54,vb true)],H++[.var [ci c.p,ci c.f,ci c.n],.var [ci c.p,ci c.f,ci c.n,ownC 1 (lc (a3h b c but i))],.var s.c]⟩
 | none=>Q (.exit 2) ⟨kp M b [(27,.sc (.sl b.ks 2 (b.singers.map Span.c))),(28,vi b.singers.length),(29,vi b.singers.length),(30,vb false)],H++[.var [ci c.p,ci c.f,ci c.n],.var [ci c.p,ci c.f,ci c.n,ownC 1 (lc (a3h b c but b.singers.length))]]⟩:=by
 have hl1:1<H.length:=by omega
 have hl5:5<H.length:=by omega
 have hm1:1<M:=by omega
 have hm4:4<M:=by omega
 have hm5:5<M:=by omega
 have hs3:=hs.s3
 refine (a4L (fun i=>⟨kp M b [(27,.sc (.sl b.ks 2 (b.singers.map Span.c))),(28,vi b.singers.length),(29,vi i)],H++[.var [ci c.p,ci c.f,ci c.n],.var [ci c.p,ci c.f,ci c.n,ownC 1 (lc (a3h b c but i))]]⟩) b.singers (fun i _=>(b.a1B c i fun n=>but.contains n).isEmpty)
  (fun i s=>(.exit 1,⟨kp M b [(11,.sc (.sl .nil 1 [])),(27,.sc (.sl b.ks 2 (b.singers.map Span.c))),(28,vi b.singers.length),(29,vi i),(54,vb true)],H++[.var [ci c.p,ci c.f,ci c.n],.var [ci c.p,ci c.f,ci c.n,ownC 1 (lc (a3h b c but i))],.var s.c]⟩))
  (.exit 2,⟨kp M b [(27,.sc (.sl b.ks 2 (b.singers.map Span.c))),(28,vi b.singers.length),(29,vi b.singers.length),(30,vb false)],H++[.var [ci c.p,ci c.f,ci c.n],.var [ci c.p,ci c.f,ci c.n,ownC 1 (lc (a3h b c but b.singers.length))]]⟩) _ ?_ ?_ ?_).trans ?_
 ·intro i s hi hf
  have hlt:i<b.singers.length:=(List.getElem?_eq_some_iff.1 hi).1
  have hiw:IntKind.i64.wrap ((i:Int)+1)=i+1:=wrap_i64 (by omega) (by omega)
  have hL {β:Type} (Q:Ex->St->Option β):=b3p (Γ:=Γ) b hs k but hbut c h0 h1 h2 i s hi H M hn h6 hb1 hb5 hu (ownC 1 (lc (a3h b c but i))) (fun n=>a7C _ _ _) Q
  have hle:(a3h b c but i).length<=3:=by simp [a3h];omega
  rw [b4Y,b7I]
  obtain ⟨str,hstr⟩:∃ str,(b.a1B c i fun n=>but.contains n)=str:=⟨_,rfl⟩
  rw [hstr] at hL hf ⊢
  cases str with
  | nil=>simp at hf
  | cons y ys =>
   have hne:decide (((ys.length+1:Nat):Int)=0)=false:=decide_eq_false (by omega)
   have happ:=a2K 1 (lc (a3h b c but i)) .full [strC (y::ys)] (by simp [lc,room];omega)
   have hp:C.pure (strC (y::ys))=true:=rfl
   have hC:∀ l:List (List C),a0r (.own false 1 ([ci y]::l))=.sl .shared 1 ([ci y]::l):=fun _=>rfl
   simp only [b3q,List.map_cons] at hL
   simp only [strC,List.map_cons] at happ hp ⊢
   (simp only [go_sem,simprocAttr,a1P,hn,a0E,hi,hiw,hL,hl1,hl5,hm1,hm4,hm5,hne,happ,hp,hu,a0Q,List.length_cons,List.length_map];repeat' ((first|refine brY ?_|refine brN ?_|refine brA ?_|refine brD ?_|refine brF ?_);(try simp only [go_sem,simprocAttr,a1P,hn,a0E,hi,hiw,hL,hl1,hl5,hm1,hm4,hm5,hne,happ,hp,hu,a0Q,List.length_cons,List.length_map])))
   rfl
 ·intro i s hi hf
  have hlt:i<b.singers.length:=(List.getElem?_eq_some_iff.1 hi).1
  have hL {β:Type} (Q:Ex->St->Option β):=b3p (Γ:=Γ) b hs k but hbut c h0 h1 h2 i s hi H M hn h6 hb1 hb5 hu (ownC 1 (lc (a3h b c but i))) (fun n=>a7C _ _ _) Q
  rw [List.isEmpty_iff] at hf
  rw [hf] at hL
  simp only [b9p,List.map_nil] at hL
  (simp only [go_sem,simprocAttr,a1P,hn,a0E,hi,hL,hl1,hl5,hm1,hm4,hm5,hu,a0Q];repeat' ((first|refine brY ?_|refine brN ?_|refine brA ?_|refine brD ?_|refine brF ?_);(try simp only [go_sem,simprocAttr,a1P,hn,a0E,hi,hL,hl1,hl5,hm1,hm4,hm5,hu,a0Q])))
 ·simp only [go_sem,simprocAttr,a1P,hn,a0E]
 ·cases a0z (fun i _=>(b.a1B c i fun n=>but.contains n).isEmpty) 0 b.singers with
  | none=>rfl
  | some q=>obtain ⟨i,x⟩:=q;rfl
def Book.addT (b:Book) (but:List Int) (ts:List Truth) (c:Cost):List Truth:=if b.can c (fun n=>but.contains n) then ts++[(c,b.strong c fun n=>but.contains n)] else ts
theorem b8D (b:Book) (c:Cost) (but:List Int):(a0z (fun i _=>(b.a1B c i fun n=>but.contains n).isEmpty) 0 b.singers).isNone=b.can c fun n=>but.contains n:=by
 rw [Bool.eq_iff_iff,Option.isNone_iff_eq_none,a2L]
 simp only [Book.can,Book.strong,List.all_eq_true,List.mem_map,List.mem_range,Nat.zero_add,Bool.not_eq_true']
 constructor
 ·rintro h l ⟨i,hi,rfl⟩
  exact h i _ (List.getElem?_eq_getElem hi)
 ·intro h i x hx
  exact h _ ⟨i,(List.getElem?_eq_some_iff.1 hx).1,rfl⟩
theorem E_A0 {β:Type} (s:St) (Q:Ex->St->Option β):E Γ a2x s Q=E Γ ((.region 1 [
 I 0 7 (.alloc 0 [.int .i64 0,.int .i64 0,.int .i64 0]),
 J 1 (.store 3 (.t 7) (.t 23))] false [2,3,5,6,7])) s Q:=rfl
theorem E_B0 {β:Type} (s:St) (Q:Ex->St->Option β):E Γ a2y s Q=E Γ ((.block 1 (.seq (.region 1 [
 I 0 24 (oS 3 7),
 I 1 25 (.build [.int .i64 0,.int .i64 0,.int .i64 0,.sl .nil 1 []] [(0,3,.t 24)]),
 I 2 8 (.alloc 0 [.int .i64 0,.int .i64 0,.int .i64 0,.sl .nil 1 []]),
 J 3 (.store 4 (.t 8) (.t 25))] false [2,3,5,6,7,8])
 (.seq (.seq (.region 0 [
  I 0 26 (oF 0 2),
  I 1 27 (oL 26),
  I 2 28 (oN 1 27),
  I 3 29 (.mv (kI 0))] false [3,5,6,7,8,27,28,29])
 (.block 2 (a5V)))
 (.region 0 [
  I 0 62 (oF 11 5),
  I 1 63 (.loadT (.t 62)),
  I 2 64 (oS 4 8),
  I 3 65 (.bslice 4 1 [.int .i64 0,.int .i64 0,.int .i64 0,.sl .nil 1 []] [(0,.t 64)]),
  I 4 66 (.append 4 (.tk 63) (.t 65)),
  I 5 67 (oF 11 5),
  J 6 (.store 1 (.t 67) (.tk 66))] false []))))) s Q:=rfl
theorem c1p (b:Book) (m t t':C):(B12 b m t).set 11 t'=B12 b m t':=rfl
attribute [go_sem] c1p
theorem b4Z (c:Cost) (st:List (List Int)):a1g (c,st)=[ci c.p,ci c.f,ci c.n,.sl .shared 1 (lc st)]:=rfl
theorem c1A (b:Book) [hb:b.Fits] (hs:Sane b) (k:SK) (but:List Int) (hbut:but.length<=1000000) (H:List Obj) (M:Nat) (ts:List Truth) (T:List (Nat × V)) (v22:V) (hT:T=[(2,.sc (.ptr 0 0)),(3,.sc (.ptr 1 0)),(4,.sc (.ptr 2 0)),(5,.sc (.ptr 4 0)),(6,.sc (.ptr 5 0)),(22,v22)]) (h22:∀ n,v22.under n=true)
 (hn:H.length=M) (h7:7<=M) (hb0:H[0]?=some (.var b.c)) (hb1:H[1]?=some (.var [.sl k 1 (li but)])) (hb4:H[4]?=some (.var (a7Z b ts))) (hb5:H[5]?=some (.var [a3b b]))
 (hb6:H[6]?=some (.loop .ready none T [23] a2x a2y)) (hu:H.all (Obj.under M)=true) (hr:ts.length+1<=room)
 (c:Cost) (h0:b.c0.has c.p) (h1:b.c1.has c.f) (h2:b.c2.has c.n) :
 K Γ (.yield 6) [.agg [ci c.p,ci c.f,ci c.n]] H=some (vb true,H.set 4 (.var (a7Z b (b.addT but ts c)))):=by
 subst hT
 have hl0:0<H.length:=by omega
 have hl1:1<H.length:=by omega
 have hl4:4<H.length:=by omega
 have hl5:5<H.length:=by omega
 have hl6:6<H.length:=by omega
 rw [c0y]
 have hm0:0<M:=by omega
 have hm1:1<M:=by omega
 have hm4:4<M:=by omega
 have hm5:5<M:=by omega
 have hm6:6<M:=by omega
 obtain ⟨bz,hbz⟩:∃ x,Obj.loop .busy none [(2,.sc (.ptr 0 0)),(3,.sc (.ptr 1 0)),(4,.sc (.ptr 2 0)),(5,.sc (.ptr 4 0)),(6,.sc (.ptr 5 0)),(22,v22)] [23] a2x a2y=x:=⟨_,rfl⟩
 have hbu (n:Nat):Obj.under (n+7) bz=true:=by subst hbz;simp [Obj.under,go_sem,h22]
 have hob {β:Type} (f:List (Nat × V)->List Nat->AC->AC->Option β):b2i (some bz) f=f [(2,.sc (.ptr 0 0)),(3,.sc (.ptr 1 0)),(4,.sc (.ptr 2 0)),(5,.sc (.ptr 4 0)),(6,.sc (.ptr 5 0)),(22,v22)] [23] a2x a2y:=by subst hbz;rfl
 have hB0:(H.set 6 bz)[0]?=some (.var b.c):=by rw [a5B _ _ _ _ (by decide),hb0]
 have hB1:(H.set 6 bz)[1]?=some (.var [.sl k 1 (li but)]):=by rw [a5B _ _ _ _ (by decide),hb1]
 have hB4:(H.set 6 bz)[4]?=some (.var (a7Z b ts)):=by rw [a5B _ _ _ _ (by decide),hb4]
 have hB5:(H.set 6 bz)[5]?=some (.var [a3b b]):=by rw [a5B _ _ _ _ (by decide),hb5]
 have hBn:(H.set 6 bz).length=M:=by simp [hn]
 have hBu:(H.set 6 bz).all (Obj.under M)=true:=a6R _ _ _ _ hu (by rw [show M=(M - 7)+7 by omega];exact hbu _)
 have hb7:(H.set 6 bz)[6]?=some bz:=b1c _ _ _ hl6
 have hb7' (v:Obj):((H.set 6 bz).set 4 v)[6]?=some bz:=by rw [a5B _ _ _ _ (by decide),hb7]
 have hsb (v:Obj):=b9A H 6 4 bz v _ (by decide) hb6
 have hsb0:(H.set 6 bz).set 6 (.loop .ready none [(2,.sc (.ptr 0 0)),(3,.sc (.ptr 1 0)),(4,.sc (.ptr 2 0)),(5,.sc (.ptr 4 0)),(6,.sc (.ptr 5 0)),(22,v22)] [23] a2x a2y)=H:=by
  rw [List.set_set];exact b1j _ _ _ hb6
 have hua (L:List (List C)):(H.set 4 (.var (B12 b (.iset 2 b.F) (ownC 4 L)))).all (Obj.under M)=true:=a6R _ _ _ _ hu (by simp [go_sem,B12])
 have hL {β:Type} (Q:Ex->St->Option β):=b8b (Γ:=Γ) b hs k but hbut c h0 h1 h2 (H.set 6 bz) M hBn (by omega) hB1 hB5 hBu Q
 have hcan:=b8D b c but
 cases hf:a0z (fun i _=>(b.a1B c i fun n=>but.contains n).isEmpty) 0 b.singers with
 | some q =>
  obtain ⟨i,s⟩:=q
  rw [hf] at hcan
  simp only [hf] at hL
  have hadd:b.addT but ts c=ts:=by
   simp only [Book.addT, ← hcan];rfl
  have hsame:H.set 4 (.var (a7Z b ts))=H:=b1j _ _ _ hb4
  rw [hadd,hsame]
  simp only [go_sem,simprocAttr,hb6,E_A0,E_B0,hbz,hob,hn,a0E,hl0,hl1,hl4,hl5,hl6,hm0,hm1,hm4,hm5,hm6,hB0,hL,hb7,hsb0,hu]
 | none =>
  rw [hf] at hcan
  simp only [hf] at hL
  have hadd:b.addT but ts c=ts++[(c,b.strong c fun n=>but.contains n)]:=by
   simp only [Book.addT, ← hcan];rfl
  obtain ⟨m,hm⟩:∃ m,b.singers.length=m+1:=⟨b.singers.length - 1,by have:=hs.s1;omega⟩
  have hne:lc (a3h b c but b.singers.length)=lc (b.strong c fun n=>but.contains n):=rfl
  have hun:a0r (ownC 1 (lc (b.strong c fun n=>but.contains n)))=.sl .shared 1 (lc (b.strong c fun n=>but.contains n)):=by
   have:(lc (b.strong c fun n=>but.contains n)).length=m+1:=by simp [lc,Book.strong,hm]
   cases he:lc (b.strong c fun n=>but.contains n) with
   | nil=>rw [he] at this;simp at this
   | cons x l=>rfl
  have happ:=a2K 4 (ts.map a1g) .full (a1g (c,b.strong c fun n=>but.contains n)) (by simpa using hr)
  rw [hadd]
  simp only [b4Z,a4V] at happ
  rw [hne] at hL
  simp only [go_sem,simprocAttr,hb6,E_A0,E_B0,hbz,hob,hn,a0E,hl0,hl1,hl4,hl5,hl6,hm0,hm1,hm4,hm5,hm6,hB0,hB4,hL,hb7,hb7',hsb,hua,hun,happ,a4V]
  simp only [a7Z,a4V,List.map_append,List.map_cons,List.map_nil,b4Z]
def b1T (b:Book):List (Nat × V):=[(2,.sc (.ptr 0 0)),(3,.sc (.ptr 1 0)),(4,.sc (.ptr 2 0)),(5,.sc (.ptr 4 0)),(6,.sc (.ptr 5 0)),(22,.sc (.fn (.fn 190) [] [] [.eptr (B12 b (.iset 2 b.F) (.sl .nil 4 [])) 0]))]
def Z12:List C:=[.sl .nil 2 [],ci 0,ci 0,ci 0,ci 0,ci 0,ci 0,.sl .nil 3 [],.sl .nil 2 [],.sl .nil 4 [],.imap true false [],.sl .nil 4 []]
def heapT (b:Book) (k:SK) (but:List Int) (ts:List Truth):List Obj :=
 [.var b.c,.var [.sl k 1 (li but)],.var Z12,.dead,.var (a7Z b ts),.var [a3b b],.loop .ready none (b1T b) [23] a2x a2y]
theorem b8v (b:Book) (but:List Int) (ts:List Truth) (c:Cost):(b.addT but ts c).length<=ts.length+1:=by
 simp only [Book.addT];split<;>simp
theorem b3V (b:Book) (but:List Int):∀ (l:List Cost) (ts:List Truth),l.foldl (b.addT but) ts=ts++(l.filter fun c=>b.can c fun n=>but.contains n).map fun c=>(c,b.strong c fun n=>but.contains n)
 | [],ts=>by simp
 | c::l,ts=>by
  rw [List.foldl_cons,b3V b but l]
  simp only [Book.addT,List.filter_cons]
  split<;>simp
theorem b5E (b:Book) (but:List Int):b.a8a.foldl (b.addT but) []=b.a3d fun n=>but.contains n:=by
 rw [b3V];rfl
theorem b9x (b:Book) [hb:b.Fits] (hs:Sane b) (k:SK) (but:List Int) (hl:but.length<=1000000) :
 K Γ (.fn 190) [.sc (.fn (.yield 6) [] [] []),.sc (.eptr (B12 b (.iset 2 b.F) (.sl .nil 4 [])) 0)] (heapT b k but [])=some (.tup [],heapT b k but (b.a3d fun n=>but.contains n)):=by
 rw [← b5E, ← b7h]
 refine (b8c b hs (.iset 2 b.F) (.sl .nil 4 []) rfl (fun r ts=>ts.length+r<=room) (b.addT but) (heapT b k but) 7 6 (by omega) (fun _=>rfl) (fun ts=>?_) (fun r ts h=>by omega) (fun r ts fr c hI hfr hc=>⟨?_,?_⟩) 0 [] (by decide)).2
 ·simp [heapT,b1T,Z12,B12,a4V,a3b,go_sem]
 ·have:=b8v b but ts c;omega
 ·exact c1A b hs k but hl (heapT b k but ts++fr) (7+fr.length) ts (b1T b) _ rfl (fun n=>by simp [go_sem]) (by simp [heapT];omega) (by omega) rfl rfl rfl rfl rfl
   (by rw [List.all_append,a0Q _ 7 _ (by simp [heapT,b1T,Z12,B12,a4V,a3b,go_sem]),hfr];rfl) (by omega) c hc.1 hc.2.1 hc.2.2
theorem c0s (b':Nat) (h:List Obj) (f:List Int->Bool) (es:Nat) (L:List (List C)) (b:Book):frzL b' h 128 (B12 b (.iset 2 f) (a0r (ownC es L)))=some (B12 b (.iset 2 f) (a0r (ownC es L))):=by
 simp only [B12,go_sem]
theorem b7g (b:Book) (f:List Int->Bool) (es:Nat) (L:List (List C)):(B12 b (.iset 2 f) (ownC es L)).map a0r=B12 b (.iset 2 f) (a0r (ownC es L)):=by
 cases L<;>rfl
theorem b9o (b:Book) [hb:b.Fits] (hs:Sane b) (k:SK) (but:List Int) (hl:but.length<=1000000) :
 K Γ (.fn 144) [.agg b.c,.sc (.sl k 1 (li but))] []=some (.agg (B12 b (.iset 2 b.F) (a0r (a4V (b.a3d fun n=>but.contains n)))),[]):=by
 have hR:=b9x (Γ:=Γ) b hs k but hl
 have hr6:=hs.r6
 have hw:=b2z (Γ:=Γ) b.kr b.rests (by omega) (fun _=>false)
 have hP:=b9u (Γ:=Γ) b (.iset 2 b.F) (.sl .nil 4 []) rfl
 have hBp:C.a0v (B12 b (.iset 2 b.F) (.sl .nil 4 []))=true:=a2S b _ _ rfl
 have hBu (n:Nat):C.a0G n (B12 b (.iset 2 b.F) (.sl .nil 4 []))=true:=a0C n _ hBp
 have hBn:(B12 b (.iset 2 b.F) (.sl .nil 4 [])).map a0r=B12 b (.iset 2 b.F) (.sl .nil 4 []):=b1q b _ _ rfl rfl
 have hF:a1M (fun _=>false) b.rests=b.F:=rfl
 simp only [heapT,b1T,Z12,a7Z,a3b] at hR
 rw [show a4V []=C.sl .nil 4 [] from rfl] at hR
 have hTu (n:Nat) (L:List (List C)):C.a0G n (B12 b (.iset 2 b.F) (ownC 4 L))=true:=by simp [B12,go_sem]
 have hTn (L:List (List C)):(B12 b (.iset 2 b.F) (a0r (ownC 4 L))).map a0r=B12 b (.iset 2 b.F) (a0r (ownC 4 L)):=by cases L<;>rfl
 rw [K_fn P04.f144 _ _ rfl]
 simp only [go_sem,simprocAttr,a5P]
 refine a0n (by simp [go_sem,Pm.acc,Acc.free,refsOf,a0h,a0c,a0g,a0b,a0d]) ?_
 simp only [go_sem,simprocAttr]
 refine a0n (by simp [go_sem,Pm.acc,Acc.free,refsOf,a0h,a0c,a0g,a0b,a0d]) ?_
 simp only [go_sem,simprocAttr,hw,hF,hP,hBp,hBu,hBn,and_self]
 refine a0n (by simp [go_sem,Pm.acc,Acc.free,refsOf,a0h,a0c,a0g,a0b,a0d]) ?_
 simp only [go_sem,simprocAttr,hw,hF,hP,hBp,hBu,hBn]
 simp only [go_sem,simprocAttr,hw,hF,hP,hR,hBp,hBu,hBn,c0s,b7g,a3b,a4V,hTu,hTn]
end
end Go.Pm.St
namespace Go.Pm.St
open Ac
/-! ### The truths of a book -/
def kT (ts:List Truth):SK:=if ts.isEmpty then .nil else .shared
theorem b3G (ts:List Truth):a0r (a4V ts)=.sl (kT ts) 4 (ts.map a1g):=by cases ts<;>rfl
abbrev O (b:Book) (ts:List Truth):List C:=B12 b (.iset 2 b.F) (.sl (kT ts) 4 (ts.map a1g))
def Book.now (b:Book):List Truth:=b.a3d fun _=>false
theorem a3w (b:Book) (ts:List Truth):C.a0v (O b ts)=true:=a2S b _ _ rfl
theorem a1R (b:Book) (ts:List Truth) (n:Nat):C.a0G n (O b ts)=true:=a0C n _ (a3w b ts)
theorem O_un (b:Book) (ts:List Truth):(O b ts).map a0r=O b ts:=b1q b _ _ rfl rfl
theorem c0e (b:Book) (ts:List Truth) (b':Nat) (h:List Obj):frzL b' h 128 (O b ts)=some (O b ts):=by simp only [B12,go_sem]
structure TOk (b:Book) (ts:List Truth):Prop where
 len:ts.length<=8
 cost:∀ t∈ts,b.c0.has t.1.p/\b.c1.has t.1.f/\b.c2.has t.1.n
 str:∀ t∈ts,t.2.length=b.singers.length
 own:∀ t∈ts,∀ l∈t.2,l≠[]/\l.length<=3/\∀ n∈l,0<=n/\n<=30
theorem a9s (lo hi:Int):(upto lo hi).length=(hi - lo+1).toNat:=by simp [upto]
theorem b6P {b:Book} (hs:Sane b):b.a8a.length<=8:=by
 have k0:=hs.k0;have k1:=hs.k1;have k2:=hs.k2
 have h1:=a2H (fun p=>(upto b.c1.lo b.c1.hi).flatMap fun f=>(upto b.c2.lo b.c2.hi).map fun n=>(⟨p,f,n⟩:Cost)) 4 (upto b.c0.lo b.c0.hi) (fun p _=>by
  have h2:=a2H (fun f=>(upto b.c2.lo b.c2.hi).map fun n=>(⟨p,f,n⟩:Cost)) 2 (upto b.c1.lo b.c1.hi) (fun f _=>by simp only [List.length_map,a9s];omega)
  rw [a9s] at h2;omega)
 rw [a9s] at h1
 show List.length (List.flatMap _ _)<=8
 omega
theorem b4X {b:Book} (hs:Sane b) {c:Cost} {i:Nat} {but:Int->Bool} {l:List Int} (h:b.a1B c i but=l):l.length<=3/\∀ n∈l,0<=n/\n<=30:=by
 subst h
 cases hi:b.singers[i]? with
 | none=>simp [Book.a1B,hi]
 | some s =>
  have hsp:=hs.sp s (List.mem_of_getElem? hi)
  refine ⟨?_,fun n hn=>?_⟩
  ·simp only [Book.a1B,hi]
   refine Nat.le_trans (List.length_filter_le _ _) ?_
   rw [a9s];omega
  ·have:=((a9C hi).1 hn).1
   simp only [Span.has] at this;omega
theorem b3B {b:Book} (hs:Sane b) (but:Int->Bool):TOk b (b.a3d but):=by
 refine ⟨?_,fun t ht=>?_,fun t ht=>?_,fun t ht l hl=>?_⟩
 ·simp only [Book.a3d,List.length_map]
  exact Nat.le_trans (List.length_filter_le _ _) (b6P hs)
 all_goals
  simp only [Book.a3d,List.mem_map,List.mem_filter] at ht
  obtain ⟨c,⟨hc,hcan⟩,rfl⟩:=ht
 ·exact b2c.1 hc
 ·simp [Book.strong]
 ·have hl':=hl
  simp only [Book.strong,List.mem_map,List.mem_range] at hl
  obtain ⟨i,hi,rfl⟩:=hl
  have h:=b4X hs (rfl:b.a1B c i but=_)
  simp only [Book.can,List.all_eq_true] at hcan
  have:=hcan _ hl'
  exact ⟨by intro e;rw [e] at this;simp at this,h⟩
/-! ### What is left in all truths -/
def allOf (b:Book) (i d:Nat) (r:Nat->Bool) (t:Truth):List Int:=((t.2[i]?).getD []).map fun n=>a2B b.days t.1 n r d
def alls (b:Book) (ts:List Truth) (i d:Nat) (r:Nat->Bool):List Int:=ts.flatMap (allOf b i d r)
def b2a:List Int->Int
 | []=>0
 | x::l=>l.foldl min x
def a9Z:List Int->Int
 | []=>0
 | x::l=>l.foldl max x
theorem TOk.get {b:Book} {ts:List Truth} (h:TOk b ts) {t:Truth} (ht:t∈ts) {i:Nat} (hi:i<b.singers.length):∃ l,t.2[i]?=some l/\l≠[]/\l.length<=3/\∀ n∈l,0<=n/\n<=30:=by
 have:=h.str t ht
 refine ⟨t.2[i],List.getElem?_eq_getElem (by omega),h.own t ht _ (List.getElem_mem _)⟩
theorem b3W {b:Book} {ts:List Truth} (h:TOk b ts) {i d:Nat} {r:Nat->Bool} (hi:i<b.singers.length) (k:Nat):((ts.take k).flatMap (allOf b i d r)).length<=24:=by
 have h1:=a2H (allOf b i d r) 3 (ts.take k) (fun t ht=>by
  obtain ⟨l,hl,_,h3,_⟩:=h.get (List.mem_of_mem_take ht) hi
  simp [allOf,hl];omega)
 have:=h.len
 have:(ts.take k).length<=8:=by rw [List.length_take];omega
 omega
theorem c0F {b:Book} {ts:List Truth} (h:TOk b ts) (hne:ts≠[]) {i d:Nat} {r:Nat->Bool} (hi:i<b.singers.length):∃ x l,alls b ts i d r=x::l:=by
 cases ts with
 | nil=>exact absurd rfl hne
 | cons t ts =>
  obtain ⟨l,hl,hn,_⟩:=h.get (by simp:t∈t::ts) hi
  cases l with
  | nil=>exact absurd rfl hn
  | cons n l=>exact ⟨_,_,by simp only [alls,List.flatMap_cons,allOf,hl,Option.getD_some,List.map_cons,List.cons_append];rfl⟩
section
variable {Γ:Env} [P04 Γ] [G04 Γ]
@[go_sem] theorem b2l (b:Book) [hb:b.Fits] (hs:Sane b) (k:SK) (but:List Int) (hl:but.length<=1000000) :
 K Γ (.fn 144) [.agg b.c,.sc (.sl k 1 (li but))] []=some (.agg (O b (b.a3d fun n=>but.contains n)),[]):=by
 rw [b9o b hs k but hl,b3G]
theorem b2m (b:Book) [hb:b.Fits] (hs:Sane b) (k:SK):K Γ (.fn 144) [.agg b.c,.sc (.sl k 1 [])] []=some (.agg (O b b.now),[]):=by
 have:=b2l (Γ:=Γ) b hs k [] (by simp)
 exact this
def Book.err (b:Book) (is:Bool):Int:=if b.valid then if is then if b.now.isEmpty then 42 else 0 else 41 else 40
theorem a6O (b:Book) [hb:b.Fits] (is:Bool):∃ cs:List C,K Γ (.fn 111) [.agg b.c,vb is] []=some (.tup [.agg cs,vi (b.err is)],[])/\cs.length=12/\C.a0v cs=true/\cs.map a0r=cs/\(b.err is=0->cs=O b b.now):=by
 cases hv:b.valid with
 | false =>
  refine ⟨[.sl .nil 2 [],ci 0,ci 0,ci 0,ci 0,ci 0,ci 0,.sl .nil 3 [],.sl .nil 2 [],.sl .nil 4 [],.imap true false [],.sl .nil 4 []],?_,rfl,rfl,rfl,fun h=>by simp [Book.err,hv] at h⟩
  rw [K_fn P04.f111 _ _ rfl]
  simp only [go_sem,simprocAttr,a3C,hv,Bool.false_eq_true,Book.err,if_false,if_true]
 | true =>
  have hs:=a2n.1 hv
  cases is with
  | false =>
   refine ⟨[.sl .nil 2 [],ci 0,ci 0,ci 0,ci 0,ci 0,ci 0,.sl .nil 3 [],.sl .nil 2 [],.sl .nil 4 [],.imap true false [],.sl .nil 4 []],?_,rfl,rfl,rfl,fun h=>by simp [Book.err,hv] at h⟩
   rw [K_fn P04.f111 _ _ rfl]
   simp only [go_sem,simprocAttr,a3C,hv,Bool.false_eq_true,Book.err,if_false,if_true]
  | true =>
   have ho:=b2m (Γ:=Γ) b hs .nil
   have hu:=a1R b b.now
   have hun:=O_un b b.now
   have hf:=c0e b b.now
   have hT:=b3B hs fun _=>false
   refine ⟨O b b.now,?_,rfl,a3w b b.now,hun,fun _=>rfl⟩
   have hd:decide ((b.now.length:Int)=0)=b.now.isEmpty:=by cases b.now<;>simp;omega
   cases hn:b.now.isEmpty with
   | true =>
    rw [hn] at hd
    rw [K_fn P04.f111 _ _ rfl]
    simp only [go_sem,simprocAttr,a3C,hv,Bool.false_eq_true,Book.err,if_false,if_true,ho,hu,hun,hf,hn,hd,List.length_map]
   | false =>
    rw [hn] at hd
    rw [K_fn P04.f111 _ _ rfl]
    simp only [go_sem,simprocAttr,a3C,hv,Bool.false_eq_true,Book.err,if_false,if_true,ho,hu,hun,hf,hn,hd,List.length_map]
theorem b8n (t:Truth):(a1g t)[3]?=some (.sl .shared 1 (t.2.map fun l=>[strC l])):=rfl
theorem b7a (t:Truth):(a1g t).length=4:=rfl
theorem b6Z (t:Truth):a0R (a1g t) 0 4=some (a1g t):=rfl
theorem b9V (t:Truth):a0R (a1g t) 0 3=some [ci t.1.p,ci t.1.f,ci t.1.n]:=rfl
theorem b8o (t:Truth):(a1g t).map a0r=a1g t:=rfl
theorem b5a (t:Truth) (n:Nat):C.a0G n (a1g t)=true:=a0C n _ rfl
theorem b7b (t:Truth) (a b c d:C):a1H [a,b,c,d] 0 (a1g t)=a1g t:=rfl
attribute [go_sem] b8n b7a b6Z b9V b8o b5a b7b
theorem c1s (b:Book) (hs:Sane b) (ts:List Truth) (t:Truth) (hc:b.c0.has t.1.p/\b.c1.has t.1.f/\b.c2.has t.1.n) (i d:Nat) (hd:d<b.days.length) (F:List Int->Bool) (l:List Int) (hl:l.length<=3) (h30:∀ n∈l,0<=n/\n<=30) (a:List Int) (ha:a.length<=100) (j:Nat) {β:Type} (Q:Ex->St->Option β) :
 E Γ a6L ⟨[(1,vi i),(2,vi d),(3,.sc (.iset 2 F)),(4,.sc (.ptr 0 0)),(8,.sc (.ptr 1 0)),(9,.sc (ownC 1 (li a))),(11,.sc (.ptr 2 0)),(15,.sc (.sl (kT ts) 4 (ts.map a1g))),(16,vi ts.length),(17,vi j),(25,.sc (strC l)),(26,vi l.length),(27,vi 0)],[.var (O b ts),.var [ci 0,ci 0],.var (a1g t)]⟩ Q =
 Q (.exit 2) ⟨[(1,vi i),(2,vi d),(3,.sc (.iset 2 F)),(4,.sc (.ptr 0 0)),(8,.sc (.ptr 1 0)),(9,.sc (ownC 1 (li (a++l.map fun n=>a2B b.days t.1 n (fun e:Nat=>F [(e:Int),(i:Int)]) d)))),(11,.sc (.ptr 2 0)),(15,.sc (.sl (kT ts) 4 (ts.map a1g))),(16,vi ts.length),(17,vi j),(25,.sc (strC l)),(26,vi l.length),(27,vi l.length),(28,vb false)],[.var (O b ts),.var [ci 0,ci 0],.var (a1g t)]⟩:=by
 refine a4Q (fun k=>⟨[(1,vi i),(2,vi d),(3,.sc (.iset 2 F)),(4,.sc (.ptr 0 0)),(8,.sc (.ptr 1 0)),(9,.sc (ownC 1 (li (a++(l.take k).map fun n=>a2B b.days t.1 n (fun e:Nat=>F [(e:Int),(i:Int)]) d)))),(11,.sc (.ptr 2 0)),(15,.sc (.sl (kT ts) 4 (ts.map a1g))),(16,vi ts.length),(17,vi j),(25,.sc (strC l)),(26,vi l.length),(27,vi k)],[.var (O b ts),.var [ci 0,ci 0],.var (a1g t)]⟩) l
  (.exit 2,⟨[(1,vi i),(2,vi d),(3,.sc (.iset 2 F)),(4,.sc (.ptr 0 0)),(8,.sc (.ptr 1 0)),(9,.sc (ownC 1 (li (a++l.map fun n=>a2B b.days t.1 n (fun e:Nat=>F [(e:Int),(i:Int)]) d)))),(11,.sc (.ptr 2 0)),(15,.sc (.sl (kT ts) 4 (ts.map a1g))),(16,vi ts.length),(17,vi j),(25,.sc (strC l)),(26,vi l.length),(27,vi l.length),(28,vb false)],[.var (O b ts),.var [ci 0,ci 0],.var (a1g t)]⟩) Q ?_ ?_ ?_
 ·simp
 ·intro k x hx
  have hlt:k<l.length:=(List.getElem?_eq_some_iff.1 hx).1
  have hki:IntKind.i64.wrap ((k:Int)+1)=k+1:=wrap_i64 (by omega) (by omega)
  have hlc:=b7J (Γ:=Γ) b hs (.iset 2 b.F) (.sl (kT ts) 4 (ts.map a1g)) rfl t.1 hc.1 hc.2.1 hc.2.2 i x (h30 x (List.mem_of_getElem? hx)) d hd F
  have happ:=a2K 1 (li (a++(l.take k).map fun n=>a2B b.days t.1 n (fun e:Nat=>F [(e:Int),(i:Int)]) d)) .full [ci (a2B b.days t.1 x (fun e:Nat=>F [(e:Int),(i:Int)]) d)] (by simp only [b7L,List.length_append,List.length_map,List.length_take,room];omega)
  have hu:=a1R b ts
  have hun:=O_un b ts
  have hp:=a3w b ts
  rw [take_snoc hx,List.map_append, ← List.append_assoc,List.map_cons,List.map_nil,b3j]
  (simp only [go_sem,simprocAttr,a1E,strC,hx,hki,hlc,happ,hu,hun,hp];repeat' ((first|refine brY ?_|refine brN ?_|refine brA ?_|refine brD ?_|refine brF ?_);(try simp only [go_sem,simprocAttr,a1E,strC,hx,hki,hlc,happ,hu,hun,hp])))
  rfl
 ·simp only [List.take_length]
  (simp only [go_sem,simprocAttr,a1E,strC];repeat' ((first|refine brY ?_|refine brN ?_|refine brA ?_|refine brD ?_|refine brF ?_);(try simp only [go_sem,simprocAttr,a1E,strC])))
end
end Go.Pm.St
namespace Go.Pm.St
open Ac
theorem a8I (x:Int) (l:List Int):(x::l).foldl min x=l.foldl min x:=by simp [Int.min_self]
section
variable {Γ:Env} [P04 Γ] [G04 Γ]
theorem c1r (b:Book) (hs:Sane b) (ts:List Truth) (hT:TOk b ts) (i d:Nat) (hi:i<b.singers.length) (hd:d<b.days.length) (F:List Int->Bool) {β:Type} (Q:Ex->St->Option β) :
 E Γ a6K ⟨[(1,vi i),(2,vi d),(3,.sc (.iset 2 F)),(4,.sc (.ptr 0 0)),(8,.sc (.ptr 1 0)),(9,.sc (.sl .nil 1 [])),(15,.sc (.sl (kT ts) 4 (ts.map a1g))),(16,vi ts.length),(17,vi 0)],[.var (O b ts),.var [ci 0,ci 0]]⟩ Q =
 Q (.exit 0) ⟨[(1,vi i),(2,vi d),(3,.sc (.iset 2 F)),(4,.sc (.ptr 0 0)),(8,.sc (.ptr 1 0)),(9,.sc (ownC 1 (li (alls b ts i d fun e:Nat=>F [(e:Int),(i:Int)])))),(15,.sc (.sl (kT ts) 4 (ts.map a1g))),(16,vi ts.length),(17,vi ts.length),(18,vb false)],[.var (O b ts),.var [ci 0,ci 0]]⟩:=by
 have ht8:=hT.len
 refine a4Q (fun k=>⟨[(1,vi i),(2,vi d),(3,.sc (.iset 2 F)),(4,.sc (.ptr 0 0)),(8,.sc (.ptr 1 0)),(9,.sc (ownC 1 (li ((ts.take k).flatMap (allOf b i d fun e:Nat=>F [(e:Int),(i:Int)]))))),(15,.sc (.sl (kT ts) 4 (ts.map a1g))),(16,vi ts.length),(17,vi k)],[.var (O b ts),.var [ci 0,ci 0]]⟩) ts
  (.exit 0,⟨[(1,vi i),(2,vi d),(3,.sc (.iset 2 F)),(4,.sc (.ptr 0 0)),(8,.sc (.ptr 1 0)),(9,.sc (ownC 1 (li (alls b ts i d fun e:Nat=>F [(e:Int),(i:Int)])))),(15,.sc (.sl (kT ts) 4 (ts.map a1g))),(16,vi ts.length),(17,vi ts.length),(18,vb false)],[.var (O b ts),.var [ci 0,ci 0]]⟩) Q ?_ ?_ ?_
 ·simp [ownC]
 ·intro k t hx
  have hlt:k<ts.length:=(List.getElem?_eq_some_iff.1 hx).1
  have hki:IntKind.i64.wrap ((k:Int)+1)=k+1:=wrap_i64 (by omega) (by omega)
  have hmem:=List.mem_of_getElem? hx
  obtain ⟨l,hl,hne,hl3,h30⟩:=hT.get hmem hi
  have hL {β:Type} (Q:Ex->St->Option β):=c1s (Γ:=Γ) b hs ts t (hT.cost t hmem) i d hd F l hl3 h30 ((ts.take k).flatMap (allOf b i d fun e:Nat=>F [(e:Int),(i:Int)])) (by have:=b3W hT hi (d:=d) (r:=fun e:Nat=>F [(e:Int),(i:Int)]) k;omega) k Q
  have hg:(t.2.map fun l=>[strC l])[i]?=some [strC l]:=by rw [List.getElem?_map,hl];rfl
  have hall:allOf b i d (fun e:Nat=>F [(e:Int),(i:Int)]) t=l.map fun n=>a2B b.days t.1 n (fun e:Nat=>F [(e:Int),(i:Int)]) d:=by simp only [allOf,hl,Option.getD_some]
  have hu:=a1R b ts
  simp only [strC] at hL hg
  rw [take_snoc hx,List.flatMap_append,List.flatMap_cons,List.flatMap_nil,List.append_nil,hall]
  (simp only [go_sem,simprocAttr,a1D,hx,hki,hl,strC,hL,hu,List.length_map,Option.map_some];repeat' ((first|refine brY ?_|refine brN ?_|refine brA ?_|refine brD ?_|refine brF ?_);(try simp only [go_sem,simprocAttr,a1D,hx,hki,hl,strC,hL,hu,List.length_map,Option.map_some])))
  rfl
 ·simp only [List.take_length]
  (simp only [go_sem,simprocAttr,a1D];repeat' ((first|refine brY ?_|refine brN ?_|refine brA ?_|refine brD ?_|refine brF ?_);(try simp only [go_sem,simprocAttr,a1D])))
  rfl
theorem c2w (b:Book) (hs:Sane b) (ts:List Truth) (hT:TOk b ts) (hne:ts≠[]) (i d:Nat) (hi:i<b.singers.length) (hd:d<b.days.length) (F:List Int->Bool) :
 K Γ (.fn 167) [.agg (O b ts),vi i,vi d,.sc (.iset 2 F)] []=some (.agg [ci (b2a (alls b ts i d fun e:Nat=>F [(e:Int),(i:Int)])),ci (a9Z (alls b ts i d fun e:Nat=>F [(e:Int),(i:Int)]))],[]):=by
 have hL {β:Type} (Q:Ex->St->Option β):=c1r (Γ:=Γ) b hs ts hT i d hi hd F Q
 obtain ⟨x,l,hxl⟩:=c0F hT hne (d:=d) (r:=fun e:Nat=>F [(e:Int),(i:Int)]) hi
 have hlen:=b3W hT hi (d:=d) (r:=fun e:Nat=>F [(e:Int),(i:Int)]) ts.length
 rw [List.take_length] at hlen
 change (alls b ts i d _).length<=24 at hlen
 rw [hxl] at hL hlen ⊢
 simp only [List.map_cons,b3q] at hL
 simp only [List.length_cons] at hlen
 have hm:=c3Q (Γ:=Γ) .shared x l (by omega)
 have hl:=b5X (Γ:=Γ) x .shared (x::l) (by simp;omega)
 rw [a8I] at hl
 simp only [List.map_cons] at hl
 have hu:=a1R b ts
 have hun:=O_un b ts
 have hf:=c0e b ts
 simp only [b2a,a9Z]
 rw [K_fn P04.f167 _ _ rfl]
 simp only [go_sem,simprocAttr,a4H,hL,hm,hl,hu,hun,hf,List.getElem?_cons_zero,List.length_map]
def Book.low (b:Book) (i d:Nat) (r:Nat->Bool):Int:=b2a (alls b b.now i d r)
def Book.high (b:Book) (i d:Nat) (r:Nat->Bool):Int:=a9Z (alls b b.now i d r)
def Book.rest (b:Book) (i:Nat):Nat->Bool:=a2Y b.rests (i:Int)
theorem b7Z {b:Book} (hs:Sane b):TOk b b.now:=b3B hs _
theorem b4V (b:Book) (hs:Sane b) (hne:b.now≠[]) (i d:Nat) (hi:i<b.singers.length) (hd:d<b.days.length) (F:List Int->Bool) (r:Nat->Bool) (hF:(fun e:Nat=>F [(e:Int),(i:Int)])=r) :
 K Γ (.fn 167) [.agg (O b b.now),vi i,vi d,.sc (.iset 2 F)] []=some (.agg [ci (b.low i d r),ci (b.high i d r)],[]):=by
 rw [c2w b hs b.now (b7Z hs) hne i d hi hd F,hF];rfl
theorem b0X (b:Book) (hs:Sane b) (hne:b.now≠[]) (i d:Nat) (hi:i<b.singers.length) (hd:d<b.days.length) (F:List Int->Bool) (r:Nat->Bool) (hF:(fun e:Nat=>F [(e:Int),(i:Int)])=r) :
 K Γ (.fn 146) [.agg (O b b.now),vi i,vi d,.sc (.iset 2 F)] []=some (vb (decide (b.low i d r<0)),[]):=by
 have h:=b4V (Γ:=Γ) b hs hne i d hi hd F r hF
 have hu:=a1R b b.now
 have hun:=O_un b b.now
 have hp:=a3w b b.now
 rw [K_fn P04.f146 _ _ rfl]
 simp only [go_sem,simprocAttr,a3U,h,hu,hun,hp]
def Book.harm (b:Book) (i d:Nat) (r:Nat->Bool):Bool:=third b.days r d||decide (b.low i d r<0)
theorem a9j (b:Book) (hs:Sane b) (hne:b.now≠[]) (i d:Nat) (hi:i<b.singers.length) (hd:d<b.days.length) (F:List Int->Bool) (r:Nat->Bool) (hF:(fun e:Nat=>F [(e:Int),(i:Int)])=r) :
 K Γ (.fn 113) [.agg (O b b.now),vi i,vi d,.sc (.iset 2 F)] []=some (vb (b.harm i d r),[]):=by
 have h:=b0X (Γ:=Γ) b hs hne i d hi hd F r hF
 have h3:=c1w (Γ:=Γ) b hs (.iset 2 b.F) (.sl (kT b.now) 4 (b.now.map a1g)) rfl i d hd F
 rw [hF] at h3
 have hu:=a1R b b.now
 have hun:=O_un b b.now
 have hp:=a3w b b.now
 simp only [Book.harm]
 cases h3v:third b.days r d<;>(rw [h3v] at h3;rw [K_fn P04.f113 _ _ rfl];simp only [go_sem,simprocAttr,a3V,h,h3,hu,hun,hp];simp)
/-! ### Right and Left -/
theorem b7Y (b:Book):decide (0<(b.now.length:Int))=!b.now.isEmpty:=by cases b.now<;>simp
@[go_sem] theorem d3q (b:Book) [hb:b.Fits]:K Γ (.fn 209) [.agg b.c] []=some (.tup [vb (b.valid&&!b.now.isEmpty),vi (if b.valid then 0 else 40)],[]):=by
 cases hv:b.valid with
 | false =>
  rw [K_fn P04.f209 _ _ rfl]
  simp only [go_sem,simprocAttr,d2G,hv,Bool.false_eq_true,if_false,Bool.false_and]
 | true =>
  have ho:=b2m (Γ:=Γ) b (a2n.1 hv) .nil
  have hu:=a1R b b.now
  have he:=b7Y b
  rw [K_fn P04.f209 _ _ rfl]
  simp only [go_sem,simprocAttr,d2G,hv,ho,hu,he,if_true,Bool.true_and,List.length_map]
theorem a5T {b:Book} {is:Bool} (h:b.err is=0):b.valid=true/\is=true/\b.now≠[]:=by
 unfold Book.err at h
 cases hv:b.valid<;>cases is<;>cases hn:b.now.isEmpty<;>simp_all
def Book.left (b:Book) (n d:Int):(Int × Int) × Int :=
 if b.err (b.a1f n&&b.a2O d)=0 then ((b.low n.toNat d.toNat (b.rest n.toNat),b.high n.toNat d.toNat (b.rest n.toNat)),0) else ((0,0),b.err (b.a1f n&&b.a2O d))
end
end Go.Pm.St
namespace Go.Pm.St
open Ac
def Cost.at (c:Cost) (k:Int):Int:=if k=0 then c.p else if k=1 then c.f else c.n
def Book.prs (b:Book) (k:Int):List Int:=b.now.map fun t=>t.1.at k
theorem b9S (t:Truth):(a1g t)[0]?=some (ci t.1.p):=rfl
theorem b9T (t:Truth):(a1g t)[1]?=some (ci t.1.f):=rfl
theorem b9U (t:Truth):(a1g t)[2]?=some (ci t.1.n):=rfl
attribute [go_sem] b9S b9T b9U
def Book.costs (b:Book) (k:Int):(Int × Int) × Int :=
 if b.err (within k 0 2)=0 then ((b2a (b.prs k),a9Z (b.prs k)),0) else ((0,0),b.err (within k 0 2))
section
variable {Γ:Env} [P04 Γ] [G04 Γ]
/-! ### Beyond -/
def Book.over (b:Book) (i:Nat) (r:Nat->Bool):Option Nat:=a1I (fun d=>decide (b.low i d r<0)) b.days.length
def Book.beyond (b:Book) (n:Int):Int × Int :=
 if b.err (b.a1f n)=0 then (match b.over n.toNat (b.rest n.toNat) with|some d=>((d:Int),0)|none=>(0,4)) else (0,b.err (b.a1f n))
end
end Go.Pm.St
namespace Go.Pm.St
open Ac
/-! ### Open days -/
def Book.o (b:Book):Nat:=(a2b b.signs).toNat
theorem b6M {b:Book} (hs:Sane b):0<=a2b b.signs/\a2b b.signs<=b.days.length:=by
 have key:∀ (l:List Sign) (n:Int),(∀ x∈l,0<=x.day/\x.day<b.days.length)->0<=n/\n<=b.days.length->0<=l.foldl (fun n x=>max n (x.day+1)) n/\l.foldl (fun n x=>max n (x.day+1)) n<=b.days.length:=by
  intro l
  induction l with
  | nil=>intro n _ h;exact h
  | cons x l ih =>
   intro n hx hn
   have:=hx x (by simp)
   exact ih (max n (x.day+1)) (fun y hy=>hx y (by simp [hy])) (by omega)
 exact key b.signs 0 (fun x hx=>(hs.sg x hx).2.1) (by omega)
theorem o_eq {b:Book} (hs:Sane b):a2b b.signs=(b.o:Int)/\b.o<=b.days.length:=by
 have:=b6M hs
 simp only [Book.o];omega
def onF (F:List Int->Bool) (i:Nat):Nat->Bool:=fun e=>F [(e:Int),(i:Int)]
def Book.a5q (b:Book) (d:Nat):Option Nat:=a1I (fun i=>b.harm i d (b.rest i)) b.singers.length
def Book.a4n (b:Book):Option (Nat × Nat):=match a1I (fun k=>(b.a5q (b.o+k)).isSome) (b.days.length - b.o) with
 | some k=>some (b.o+k,(b.a5q (b.o+k)).getD 0)
 | none=>none
def Book.first (b:Book):(Int × Int) × Int :=
 if b.err true=0 then (match b.a4n with|some (d,i)=>(((d:Int),(i:Int)),0)|none=>((0,0),4)) else ((0,0),b.err true)
section
variable {Γ:Env} [P04 Γ] [G04 Γ]
/-! ### Plans that are safe -/
def Book.a8P (b:Book) (d:Nat):Int:=match b.days[d]? with|some x=>x.needs|none=>0
def Book.sing (b:Book) (F:List Int->Bool) (d:Nat):Nat:=((List.range b.singers.length).filter fun i=>!onF F i d).length
def Book.enough (b:Book) (F:List Int->Bool):Bool:=(a1I (fun k=>decide ((b.sing F (b.o+k):Int)<b.a8P (b.o+k))) (b.days.length - b.o)).isNone
def Book.well (b:Book) (F:List Int->Bool) (i:Nat):Bool:=(a1I (fun k=>b.harm i (b.o+k) (onF F i)) (b.days.length - b.o)).isNone
theorem b2V (b:Book) (hs:Sane b) (F:List Int->Bool) (m t:C) (hmt:C.a0v [m,t]=true) (d:Nat) {β:Type} (Q:Ex->St->Option β) :
 E Γ a6e ⟨[(1,.sc (.iset 2 F)),(2,.sc (.ptr 0 0)),(5,vi d),(6,vi 0),(22,vi b.singers.length),(23,vi 0)],[.var (B12 b m t)]⟩ Q =
 Q (.exit 2) ⟨[(1,.sc (.iset 2 F)),(2,.sc (.ptr 0 0)),(5,vi d),(6,vi (b.sing F d)),(22,vi b.singers.length),(23,vi b.singers.length),(24,vb false)],[.var (B12 b m t)]⟩:=by
 have hu (n:Nat):C.a0G n (B12 b m t)=true:=a0C n _ (a2S b m t hmt)
 have hs3:=hs.s3
 have hle:∀ k,((List.range k).filter fun i=>!onF F i d).length<=k:=fun k=>Nat.le_trans (List.length_filter_le _ _) (by simp)
 refine a4q b.singers.length (fun k (_:Unit)=>⟨[(1,.sc (.iset 2 F)),(2,.sc (.ptr 0 0)),(5,vi d),(6,vi (((List.range k).filter fun i=>!onF F i d).length:Nat)),(22,vi b.singers.length),(23,vi k)],[.var (B12 b m t)]⟩) (fun _ _=>True)
  (fun _=>(.exit 2,⟨[(1,.sc (.iset 2 F)),(2,.sc (.ptr 0 0)),(5,vi d),(6,vi (b.sing F d)),(22,vi b.singers.length),(23,vi b.singers.length),(24,vb false)],[.var (B12 b m t)]⟩)) () rfl trivial ?_ ?_ (fun _ _=>rfl)
 ·intro k _ hk _
  refine ⟨(),trivial,?_⟩
  have hlt:decide ((k:Int)<b.singers.length)=true:=decide_eq_true (by omega)
  have hkw:IntKind.i64.wrap ((k:Int)+1)=k+1:=wrap_i64 (by omega) (by omega)
  have hk3:=hle k
  have hnw:IntKind.i64.wrap ((((List.range k).filter fun i=>!onF F i d).length:Int)+1)=((((List.range k).filter fun i=>!onF F i d).length+1:Nat):Int):=by rw [wrap_i64 (by omega) (by omega)];omega
  have hFd:F [(d:Int),(k:Int)]=onF F k d:=rfl
  rw [List.range_succ,List.filter_append,List.filter_cons,List.filter_nil]
  cases hf:onF F k d with
  | true =>
   rw [hf] at hFd
   simp only [Bool.not_true,Bool.false_eq_true,if_false,List.append_nil]
   simp only [go_sem,simprocAttr,a3g,hlt,hkw,hFd,hu]
   rfl
  | false =>
   rw [hf] at hFd
   simp only [Bool.not_false,if_true,List.length_append,List.length_cons,List.length_nil,Nat.zero_add]
   simp only [go_sem,simprocAttr,a3g,hlt,hkw,hFd,hu,hnw]
   rfl
 ·intro _ _
  simp only [go_sem,simprocAttr,a3g]
  rfl
theorem b4i (b:Book) [hb:b.Fits] (hs:Sane b) (F:List Int->Bool) (m t:C) (hmt:C.a0v [m,t]=true):K Γ (.fn 123) [.agg (B12 b m t),.sc (.iset 2 F)] []=some (vb (b.enough F),[]):=by
 have hu (n:Nat):C.a0G n (B12 b m t)=true:=a0C n _ (a2S b m t hmt)
 have hd5:=hs.d5
 obtain ⟨ho,hol⟩:=o_eq hs
 have hok:=b0g (Γ:=Γ) b hs
 rw [ho] at hok
 rw [K_fn P04.f123 _ _ rfl]
 (simp only [go_sem,simprocAttr,a2j,hu,hok];repeat' ((first|refine brY ?_|refine brN ?_|refine brA ?_|refine brD ?_|refine brF ?_);(try simp only [go_sem,simprocAttr,a2j,hu,hok])))
 refine (a6N (b.days.length - b.o) (fun k=>⟨[(1,.sc (.iset 2 F)),(2,.sc (.ptr 0 0)),(5,vi ((b.o+k:Nat):Int))],[.var (B12 b m t)]⟩) (fun k=>decide ((b.sing F (b.o+k):Int)<b.a8P (b.o+k)))
  (fun k=>(.ret,⟨[(4,vb false)],[.var (B12 b m t)]⟩)) (.exit 0,⟨[(1,.sc (.iset 2 F)),(2,.sc (.ptr 0 0)),(5,vi b.days.length),(16,vb false)],[.var (B12 b m t)]⟩) _ rfl ?_ ?_ ?_).trans ?_
 ·intro k hk hf
  have hlt:decide (((b.o+k:Nat):Int)<b.days.length)=true:=decide_eq_true (by omega)
  have hdw:IntKind.i64.wrap (((b.o+k:Nat):Int)+1)=((b.o+(k+1):Nat):Int):=by rw [wrap_i64 (by omega) (by omega)];omega
  obtain ⟨x,hx⟩:∃ x,b.days[b.o+k]?=some x:=⟨_,List.getElem?_eq_getElem (by omega)⟩
  have hL {β:Type} (Q:Ex->St->Option β):=b2V (Γ:=Γ) b hs F m t hmt (b.o+k) Q
  simp only [Book.a8P,hx] at hf
  (simp only [go_sem,simprocAttr,a1k,hlt,hdw,hL,hu,hx,hf];repeat' ((first|refine brY ?_|refine brN ?_|refine brA ?_|refine brD ?_|refine brF ?_);(try simp only [go_sem,simprocAttr,a1k,hlt,hdw,hL,hu,hx,hf])))
 ·intro k hk hf
  have hlt:decide (((b.o+k:Nat):Int)<b.days.length)=true:=decide_eq_true (by omega)
  obtain ⟨x,hx⟩:∃ x,b.days[b.o+k]?=some x:=⟨_,List.getElem?_eq_getElem (by omega)⟩
  have hL {β:Type} (Q:Ex->St->Option β):=b2V (Γ:=Γ) b hs F m t hmt (b.o+k) Q
  simp only [Book.a8P,hx] at hf
  (simp only [go_sem,simprocAttr,a1k,hlt,hL,hu,hx,hf];repeat' ((first|refine brY ?_|refine brN ?_|refine brA ?_|refine brD ?_|refine brF ?_);(try simp only [go_sem,simprocAttr,a1k,hlt,hL,hu,hx,hf])))
 ·have hlt:decide (((b.o+(b.days.length - b.o):Nat):Int)<b.days.length)=false:=decide_eq_false (by omega)
  have e:b.o+(b.days.length - b.o)=b.days.length:=by omega
  rw [e] at hlt ⊢
  simp only [go_sem,simprocAttr,a1k,hlt]
 ·simp only [Book.enough]
  cases hf:a1I (fun k=>decide ((b.sing F (b.o+k):Int)<b.a8P (b.o+k))) (b.days.length - b.o) with
  | none=>simp only [go_sem,simprocAttr,hu];rfl
  | some k=>simp only [go_sem,simprocAttr,hu];rfl
theorem b5e (b:Book) [hb:b.Fits] (hs:Sane b) (hne:b.now≠[]) (i:Nat) (hi:i<b.singers.length) (F:List Int->Bool):K Γ (.fn 122) [.agg (O b b.now),vi i,.sc (.iset 2 F)] []=some (vb (b.well F i),[]):=by
 have hu:=a1R b b.now
 have hun:=O_un b b.now
 have hp:=a3w b b.now
 have hd5:=hs.d5
 obtain ⟨ho,hol⟩:=o_eq hs
 have hok:=b0g (Γ:=Γ) b hs
 rw [ho] at hok
 rw [K_fn P04.f122 _ _ rfl]
 simp only [go_sem,simprocAttr,a4I,hu,hok]
 refine (a6N (b.days.length - b.o) (fun k=>⟨[(1,vi i),(2,.sc (.iset 2 F)),(3,.sc (.ptr 0 0)),(7,vi ((b.o+k:Nat):Int))],[.var (O b b.now)]⟩) (fun k=>b.harm i (b.o+k) (onF F i))
  (fun k=>(.ret,⟨[(6,vb false)],[.var (O b b.now)]⟩)) (.exit 0,⟨[(1,vi i),(2,.sc (.iset 2 F)),(3,.sc (.ptr 0 0)),(7,vi b.days.length),(16,vb false)],[.var (O b b.now)]⟩) _ rfl ?_ ?_ ?_).trans ?_
 ·intro k hk hf
  have hlt:decide (((b.o+k:Nat):Int)<b.days.length)=true:=decide_eq_true (by omega)
  have hdw:IntKind.i64.wrap (((b.o+k:Nat):Int)+1)=((b.o+(k+1):Nat):Int):=by rw [wrap_i64 (by omega) (by omega)];omega
  have hk:=a9j (Γ:=Γ) b hs hne i (b.o+k) hi (by omega) F (onF F i) rfl
  rw [hf] at hk
  simp only [go_sem,simprocAttr,a3E,hlt,hdw,hk,hu,hun,hp]
 ·intro k hk hf
  have hlt:decide (((b.o+k:Nat):Int)<b.days.length)=true:=decide_eq_true (by omega)
  have hk:=a9j (Γ:=Γ) b hs hne i (b.o+k) hi (by omega) F (onF F i) rfl
  rw [hf] at hk
  simp only [go_sem,simprocAttr,a3E,hlt,hk,hu,hun,hp]
 ·have hlt:decide (((b.o+(b.days.length - b.o):Nat):Int)<b.days.length)=false:=decide_eq_false (by omega)
  have e:b.o+(b.days.length - b.o)=b.days.length:=by omega
  rw [e] at hlt ⊢
  simp only [go_sem,simprocAttr,a3E,hlt]
 ·simp only [Book.well]
  cases hf:a1I (fun k=>b.harm i (b.o+k) (onF F i)) (b.days.length - b.o) with
  | none=>simp only [go_sem,simprocAttr,hu];rfl
  | some k=>simp only [go_sem,simprocAttr,hu];rfl
def Book.b5J (b:Book) (F:List Int->Bool):Bool:=(a1I (fun i=>!b.well F i) b.singers.length).isNone
def Book.safe (b:Book) (l:List Rest):Bool × Int:=if b.err (b.a4k l)=0 then (b.b5J (a1M b.F l)&&b.enough (a1M b.F l),0) else (false,b.err (b.a4k l))
theorem b0G {b:Book} {is:Bool} (h:b.valid=false):b.err is=40:=by simp [Book.err,h]
theorem cmp_neg {x y:Rest}:x.cmp y<0<->x.day<y.day\/(x.day=y.day/\x.singer<y.singer):=by
 unfold Rest.cmp cmp3
 by_cases h1:x.day<y.day
 ·simp [h1]
 ·by_cases h2:y.day<x.day
  ·simp [h1,h2];omega
  ·have:x.day=y.day:=by omega
   by_cases h3:x.singer<y.singer
   ·simp [h1,h2,h3,this]
   ·by_cases h4:y.singer<x.singer<;>simp [h1,h2,h3,h4]<;>omega
theorem b6w {b:Book} {l:List Rest}:b.a4k l=true<->∀ (i:Nat) y,l[i]?=some y->b.a2O y.day=true/\a2b b.signs<=y.day/\b.a1f y.singer=true/\b.rests.any (·.same y)=false/\∀ x,0<i->l[i - 1]?=some x->x.cmp y<0:=by
 rw [Book.a4k,Option.isNone_iff_eq_none,a2L]
 refine forall_congr' fun i=>forall_congr' fun y=>?_
 by_cases hy:l[i]?=some y
 ·simp only [hy,forall_const,Nat.zero_add,Book.bad,Bool.or_eq_false_iff,Bool.not_eq_false',decide_eq_false_iff_not,Int.not_lt,late,Bool.and_eq_false_iff]
  refine and_congr_right fun _=>and_congr_right fun _=>and_congr_right fun _=>and_congr_right fun _=>?_
  constructor
  ·rintro (h|h) x hi hx
   ·exact absurd hi h
   ·rw [hx] at h;simpa using h
  ·intro h
   by_cases hi:0<i
   ·refine .inr ?_
    cases hx:l[i - 1]? with
    | none=>rfl
    | some x=>have:=h x hi hx;simpa using this
   ·exact .inl hi
 ·simp [hy]
theorem b6x {b:Book} {l:List Rest} (hs:Sane b) (h:b.a4k l=true):l.length<=15:=by
 rw [b6w] at h
 have hb:∀ (i:Nat) y,l[i]?=some y->(0<=y.day/\y.day<=4)/\(0<=y.singer/\y.singer<=2):=fun i y hy=>by
  obtain ⟨h1,_,h3,_⟩:=h i y hy
  rw [Book.a2O,within_iff] at h1
  rw [Book.a1f,within_iff] at h3
  have:=hs.d5;have:=hs.s3;omega
 have key:∀ (i:Nat) y,l[i]?=some y->(i:Int)<=y.day*3+y.singer:=by
  intro i
  induction i with
  | zero=>intro y hy;have:=hb 0 y hy;omega
  | succ i ih =>
   intro y hy
   obtain ⟨x,hx⟩:∃ x,l[i]?=some x:=⟨_,List.getElem?_eq_getElem (by have:=(List.getElem?_eq_some_iff.1 hy).1;omega)⟩
   have h1:=ih x hx
   have h2:=(h (i+1) y hy).2.2.2.2 x (by omega) hx
   rw [cmp_neg] at h2
   have:=hb i x hx;have:=hb (i+1) y hy
   omega
 by_cases hl:l.length=0
 ·omega
 ·have hx:=List.getElem?_eq_getElem (l:=l) (show l.length - 1<l.length by omega)
  have h1:=key _ _ hx
  have h2:=hb _ _ hx
  omega
@[go_sem] theorem c1N (b:Book) [hb:b.Fits] (k:SK) (l:List Rest) (hl:l.length<=9223372036854775807):K Γ (.fn 105) [.agg b.c,.sc (.sl k 2 (l.map Rest.c))] []=some (.tup [vb (b.safe l).1,vi (b.safe l).2],[]):=by
 cases hv:b.valid with
 | false =>
  have he:¬ b.err (b.a4k l)=0:=by rw [b0G hv];decide
  simp only [Book.safe,if_neg he,b0G hv]
  rw [K_fn P04.f105 _ _ rfl]
  simp only [go_sem,simprocAttr,a1F,hv,Bool.false_eq_true,if_false]
 | true =>
  have hs:=a2n.1 hv
  obtain ⟨cs,ha,hlen,hp,hun,hO⟩:=a6O (Γ:=Γ) b (b.a4k l)
  have hu (m:Nat):C.a0G m cs=true:=a0C m _ hp
  have hip:=b4y (Γ:=Γ) b hs k l hl
  by_cases he:b.err (b.a4k l)=0
  ·obtain ⟨-,hpl,hne⟩:=a5T he
   obtain rfl:=hO he
   have hOu:=a1R b b.now
   have hOp:=a3w b b.now
   have hs3:=hs.s3
   have hw:=b2z (Γ:=Γ) k l (by have:=b6x hs hpl;omega) b.F
   have hen:=b4i (Γ:=Γ) b hs (a1M b.F l) (.iset 2 b.F) (.sl (kT b.now) 4 (b.now.map a1g)) rfl
   rw [he] at ha
   simp only [Book.safe,if_pos he]
   have hL {β:Type} (Q:Ex->St->Option β):E Γ a9b ⟨[(7,.sc (.ptr 1 0)),(9,.sc (.iset 2 (a1M b.F l))),(33,vi b.singers.length),(34,vi 0)],[.var b.c,.var (O b b.now)]⟩ Q =
    match a1I (fun i=>!b.well (a1M b.F l) i) b.singers.length with
    | some i=>Q .ret ⟨[(4,vb false),(5,vi 0)],[.var b.c,.var (O b b.now)]⟩
    | none=>Q (.exit 0) ⟨[(7,.sc (.ptr 1 0)),(9,.sc (.iset 2 (a1M b.F l))),(33,vi b.singers.length),(34,vi b.singers.length),(35,vb false)],[.var b.c,.var (O b b.now)]⟩:=by
    refine a6N b.singers.length (fun i=>⟨[(7,.sc (.ptr 1 0)),(9,.sc (.iset 2 (a1M b.F l))),(33,vi b.singers.length),(34,vi i)],[.var b.c,.var (O b b.now)]⟩) (fun i=>!b.well (a1M b.F l) i)
     (fun i=>(.ret,⟨[(4,vb false),(5,vi 0)],[.var b.c,.var (O b b.now)]⟩)) (.exit 0,⟨[(7,.sc (.ptr 1 0)),(9,.sc (.iset 2 (a1M b.F l))),(33,vi b.singers.length),(34,vi b.singers.length),(35,vb false)],[.var b.c,.var (O b b.now)]⟩) Q rfl ?_ ?_ ?_
    ·intro i hi hf
     have hiw:IntKind.i64.wrap ((i:Int)+1)=i+1:=wrap_i64 (by omega) (by omega)
     have hk:=b5e (Γ:=Γ) b hs hne i hi (a1M b.F l)
     rw [Bool.not_eq_false'] at hf
     rw [hf] at hk
     (simp only [go_sem,simprocAttr,a1C,hiw,hk,hOu,hun,hOp];repeat' ((first|refine brY ?_|refine brN ?_|refine brA ?_|refine brD ?_|refine brF ?_);(try simp only [go_sem,simprocAttr,a1C,hiw,hk,hOu,hun,hOp])))
     rfl
    ·intro i hi hf
     have hk:=b5e (Γ:=Γ) b hs hne i hi (a1M b.F l)
     rw [Bool.not_eq_true'] at hf
     rw [hf] at hk
     (simp only [go_sem,simprocAttr,a1C,hk,hOu,hun,hOp];repeat' ((first|refine brY ?_|refine brN ?_|refine brA ?_|refine brD ?_|refine brF ?_);(try simp only [go_sem,simprocAttr,a1C,hk,hOu,hun,hOp])))
    ·(simp only [go_sem,simprocAttr,a1C];repeat' ((first|refine brY ?_|refine brN ?_|refine brA ?_|refine brD ?_|refine brF ?_);(try simp only [go_sem,simprocAttr,a1C])))
   simp only [Book.b5J]
   cases hf:a1I (fun i=>!b.well (a1M b.F l) i) b.singers.length with
   | none =>
    simp only [hf] at hL
    rw [K_fn P04.f105 _ _ rfl]
    (simp only [go_sem,simprocAttr,a1F,hv,if_true,hip,ha,hu,hun,hOp,hOu,hw,hL,hen,Option.isNone_none,Bool.true_and];repeat' ((first|refine brY ?_|refine brN ?_|refine brA ?_|refine brD ?_|refine brF ?_);(try simp only [go_sem,simprocAttr,a1F,hv,if_true,hip,ha,hu,hun,hOp,hOu,hw,hL,hen,Option.isNone_none,Bool.true_and])))
   | some i =>
    simp only [hf] at hL
    rw [K_fn P04.f105 _ _ rfl]
    (simp only [go_sem,simprocAttr,a1F,hv,if_true,hip,ha,hu,hun,hOp,hOu,hw,hL,hen,Option.isNone_some,Bool.false_and];repeat' ((first|refine brY ?_|refine brN ?_|refine brA ?_|refine brD ?_|refine brF ?_);(try simp only [go_sem,simprocAttr,a1F,hv,if_true,hip,ha,hu,hun,hOp,hOu,hw,hL,hen,Option.isNone_some,Bool.false_and])))
  ·have hd:decide (b.err (b.a4k l)=0)=false:=decide_eq_false he
   simp only [Book.safe,if_neg he]
   rw [K_fn P04.f105 _ _ rfl]
   (simp only [go_sem,simprocAttr,a1F,hv,if_true,hip,ha,hu,hun,hlen,hp,hd];repeat' ((first|refine brY ?_|refine brN ?_|refine brA ?_|refine brD ?_|refine brF ?_);(try simp only [go_sem,simprocAttr,a1F,hv,if_true,hip,ha,hu,hun,hlen,hp,hd])))
end
end Go.Pm.St
namespace Go.Pm.St
open Ac
def Book.add (b:Book) (x:Sign):Book:={ b with kg:=.shared,signs:=b.signs++[x] }
def ownB (b:Book) (x:Sign):List C:=[.sl b.ks 2 (b.singers.map Span.c),ci b.c0.lo,ci b.c0.hi,ci b.c1.lo,ci b.c1.hi,ci b.c2.lo,ci b.c2.hi,.sl b.kd 3 (b.days.map Day.c),.sl b.kr 2 (b.rests.map Rest.c),.own false 4 (b.signs.map Sign.c++[x.c])]
@[go_sem] theorem c8D (b:Book) (x:Sign):b.c.set 9 (.own false 4 (b.signs.map Sign.c++[x.c]))=ownB b x:=nrfl rfl
@[go_sem] theorem c8C (b:Book) (x:Sign):a0R (ownB b x) 0 10=some (ownB b x):=nrfl rfl
@[go_sem] theorem c9R (b:Book) (x:Sign):(ownB b x).map a0r=(b.add x).c:=by
 simp [ownB,Book.add,Book.c,a0r]
@[go_sem] theorem c5q (b:Book) (x:Sign) (n:Nat):C.a0G n (ownB b x)=true:=by simp [ownB,go_sem]
section
variable {Γ:Env} [P04 Γ] [G04 Γ]
def Book.fits (b:Book) (x:Sign):Bool × Int:=if b.err (b.a3z x)=0 then (!(b.add x).now.isEmpty,0) else (false,b.err (b.a3z x))
end
end Go.Pm.St
namespace Go.Pm.St
open Ac
def a2r (l:List Int):Int:=if l=[] then 0 else l.getD (l.length - 1) 0+1
def Book.choose (b:Book):Nat->List Int->List Int × Bool
 | 0,l=>(l,(!(b.a3d fun n=>l.contains n).isEmpty))
 | r+1,l=>match a0z (fun i _=>(b.choose r (l++[a2r l+(i:Nat)])).2) 0 (List.range (b.signs.length - a2r l).toNat) with
  | some (i,_)=>((b.choose r (l++[a2r l+(i:Nat)])).1,true)
  | none=>([],false)
section
variable {Γ:Env} [P04 Γ] [G04 Γ]
def Book.wrong (b:Book):List Int × Int:=if b.valid then (match a0z (fun m _=>(b.choose m []).2) 0 (List.range (b.signs.length+1)) with|some (m,_)=>(b.choose m []).1|none=>[],0) else ([],40)
end
end Go.Pm.St
namespace Go.Pm.St
open Ac
/-! ### Rests as a row that is written into -/
def a1A (l:List Rest):List C:=(l.map Rest.c).flatten
theorem a7t (x:Rest) (l:List Rest):a1A (x::l)=x.c++a1A l:=rfl
@[go_sem] theorem b2W:∀ l:List Rest,(a1A l).length=2*l.length
 | []=>rfl
 | x::l=>by
  have h2:x.c.length=2:=rfl
  rw [a7t,List.length_append,b2W l,List.length_cons,h2];omega
theorem a8z (l:List Rest):∀ c,c∈a1A l->b1I c=true/\a0r c=c/\c.pure=true:=by
 intro c hc
 simp only [a1A,List.mem_flatten,List.mem_map] at hc
 obtain ⟨l,⟨x, -,rfl⟩,hc⟩:=hc
 simp only [Rest.c,List.mem_cons,List.not_mem_nil,or_false] at hc
 rcases hc with rfl|rfl<;>exact ⟨rfl,rfl,rfl⟩
theorem b3s:∀ (cs:List C),(∀ c,c∈cs->c.pure=true)->C.a0v cs=true
 | [],_=>rfl
 | c::cs,h=>by simp only [C.a0v,h c (by simp),b3s cs (fun x hx=>h x (by simp [hx])),Bool.and_self]
theorem b1J (l:List Rest):C.a0v (a1A l)=true:=b3s _ fun c hc=>(a8z l c hc).2.2
@[go_sem] theorem a1j (n:Nat) (l:List Rest):C.a0G n (a1A l)=true:=a0C n _ (b1J l)
theorem a8y (a cs:List C):∀ (n off:Nat),a0R (a++cs) (a.length+off) n=a0R cs off n
 | 0,_=>rfl
 | n+1,off=>by
  simp only [a0R]
  rw [List.getElem?_append_right (by omega),show a.length+off - a.length=off by omega,Nat.add_assoc,a8y a cs n (off+1)]
theorem b1A (a cs:List C) (es:Nat):∀ (n off:Nat),chunks (a++cs) (a.length+off) es n=chunks cs off es n
 | 0,_=>rfl
 | n+1,off=>by
  simp only [chunks]
  rw [a8y,Nat.add_assoc,b1A a cs es n (off+es)]
/-! ### Into their order, one after the other -/
def Rest.lt (x y:Rest):Bool:=decide (x.cmp y<0)
def insR (x:Rest):List Rest->List Rest
 | []=>[x]
 | y::l=>if x.lt y then x::y::l else y::insR x l
def a1w (l:List Rest):List Rest:=l.foldl (fun p x=>insR x p) []
def Up (l:List Rest):Prop:=l.Pairwise fun x y=>y.lt x=false
end Go.Pm.St
namespace Go.Pm.St
open Ac
section
variable {Γ:Env} [P04 Γ] [G04 Γ]
theorem c0k (n:Nat) (hn:n<=15):∃ v:Nat,v<=4/\(8<=n->v=4)/\K Γ (.fn 161) [.sc (.int .u64 n)] []=some (vi v,[]):=by
 have h:n=0\/n=1\/n=2\/n=3\/n=4\/n=5\/n=6\/n=7\/n=8\/n=9\/n=10\/n=11\/n=12\/n=13\/n=14\/n=15:=by omega
 have step (n:Nat) (v:UInt8) (hv:K Γ (.fn 187) [.sc (.int .u64 n)] []=some (vi v.toNat,[])):K Γ (.fn 161) [.sc (.int .u64 n)] []=some (vi v.toNat,[]):=by
  rw [K_fn P04.f161 _ _ rfl]
  simp only [go_sem,simprocAttr,a5J,hv]
 rcases h with rfl|rfl|rfl|rfl|rfl|rfl|rfl|rfl|rfl|rfl|rfl|rfl|rfl|rfl|rfl|rfl
 ·refine ⟨_,?_,?_,step 0 0 ?_⟩
  ·decide
  ·decide
  ·rw [K_fn P04.f187 _ _ rfl]
   simp only [go_sem,simprocAttr,a0P]
   refine a0n (by decide) ?_
   refine a2o (x:=0) (by decide) ?_
   simp only [go_sem,simprocAttr]
 ·refine ⟨_,?_,?_,step 1 1 ?_⟩
  ·decide
  ·decide
  ·rw [K_fn P04.f187 _ _ rfl]
   simp only [go_sem,simprocAttr,a0P]
   refine a0n (by decide) ?_
   refine a2o (x:=1) (by decide) ?_
   simp only [go_sem,simprocAttr]
 ·refine ⟨_,?_,?_,step 2 2 ?_⟩
  ·decide
  ·decide
  ·rw [K_fn P04.f187 _ _ rfl]
   simp only [go_sem,simprocAttr,a0P]
   refine a0n (by decide) ?_
   refine a2o (x:=2) (by decide) ?_
   simp only [go_sem,simprocAttr]
 ·refine ⟨_,?_,?_,step 3 2 ?_⟩
  ·decide
  ·decide
  ·rw [K_fn P04.f187 _ _ rfl]
   simp only [go_sem,simprocAttr,a0P]
   refine a0n (by decide) ?_
   refine a2o (x:=2) (by decide) ?_
   simp only [go_sem,simprocAttr]
 ·refine ⟨_,?_,?_,step 4 3 ?_⟩
  ·decide
  ·decide
  ·rw [K_fn P04.f187 _ _ rfl]
   simp only [go_sem,simprocAttr,a0P]
   refine a0n (by decide) ?_
   refine a2o (x:=3) (by decide) ?_
   simp only [go_sem,simprocAttr]
 ·refine ⟨_,?_,?_,step 5 3 ?_⟩
  ·decide
  ·decide
  ·rw [K_fn P04.f187 _ _ rfl]
   simp only [go_sem,simprocAttr,a0P]
   refine a0n (by decide) ?_
   refine a2o (x:=3) (by decide) ?_
   simp only [go_sem,simprocAttr]
 ·refine ⟨_,?_,?_,step 6 3 ?_⟩
  ·decide
  ·decide
  ·rw [K_fn P04.f187 _ _ rfl]
   simp only [go_sem,simprocAttr,a0P]
   refine a0n (by decide) ?_
   refine a2o (x:=3) (by decide) ?_
   simp only [go_sem,simprocAttr]
 ·refine ⟨_,?_,?_,step 7 3 ?_⟩
  ·decide
  ·decide
  ·rw [K_fn P04.f187 _ _ rfl]
   simp only [go_sem,simprocAttr,a0P]
   refine a0n (by decide) ?_
   refine a2o (x:=3) (by decide) ?_
   simp only [go_sem,simprocAttr]
 ·refine ⟨_,?_,?_,step 8 4 ?_⟩
  ·decide
  ·decide
  ·rw [K_fn P04.f187 _ _ rfl]
   simp only [go_sem,simprocAttr,a0P]
   refine a0n (by decide) ?_
   refine a2o (x:=4) (by decide) ?_
   simp only [go_sem,simprocAttr]
 ·refine ⟨_,?_,?_,step 9 4 ?_⟩
  ·decide
  ·decide
  ·rw [K_fn P04.f187 _ _ rfl]
   simp only [go_sem,simprocAttr,a0P]
   refine a0n (by decide) ?_
   refine a2o (x:=4) (by decide) ?_
   simp only [go_sem,simprocAttr]
 ·refine ⟨_,?_,?_,step 10 4 ?_⟩
  ·decide
  ·decide
  ·rw [K_fn P04.f187 _ _ rfl]
   simp only [go_sem,simprocAttr,a0P]
   refine a0n (by decide) ?_
   refine a2o (x:=4) (by decide) ?_
   simp only [go_sem,simprocAttr]
 ·refine ⟨_,?_,?_,step 11 4 ?_⟩
  ·decide
  ·decide
  ·rw [K_fn P04.f187 _ _ rfl]
   simp only [go_sem,simprocAttr,a0P]
   refine a0n (by decide) ?_
   refine a2o (x:=4) (by decide) ?_
   simp only [go_sem,simprocAttr]
 ·refine ⟨_,?_,?_,step 12 4 ?_⟩
  ·decide
  ·decide
  ·rw [K_fn P04.f187 _ _ rfl]
   simp only [go_sem,simprocAttr,a0P]
   refine a0n (by decide) ?_
   refine a2o (x:=4) (by decide) ?_
   simp only [go_sem,simprocAttr]
 ·refine ⟨_,?_,?_,step 13 4 ?_⟩
  ·decide
  ·decide
  ·rw [K_fn P04.f187 _ _ rfl]
   simp only [go_sem,simprocAttr,a0P]
   refine a0n (by decide) ?_
   refine a2o (x:=4) (by decide) ?_
   simp only [go_sem,simprocAttr]
 ·refine ⟨_,?_,?_,step 14 4 ?_⟩
  ·decide
  ·decide
  ·rw [K_fn P04.f187 _ _ rfl]
   simp only [go_sem,simprocAttr,a0P]
   refine a0n (by decide) ?_
   refine a2o (x:=4) (by decide) ?_
   simp only [go_sem,simprocAttr]
 ·refine ⟨_,?_,?_,step 15 4 ?_⟩
  ·decide
  ·decide
  ·rw [K_fn P04.f187 _ _ rfl]
   simp only [go_sem,simprocAttr,a0P]
   refine a0n (by decide) ?_
   refine a2o (x:=4) (by decide) ?_
   simp only [go_sem,simprocAttr]
end
end Go.Pm.St
namespace Go.Pm.St
open Ac
def elt (D:List Rest) (k:Nat):Rest:=(D[k]?).getD ⟨0,0⟩
theorem d8b {D:List Rest} {k:Nat} (h:k<D.length):D[k]?=some (elt D k):=by simp [elt,h]
theorem d9o {D:List Rest} {i k:Nat} {v:Rest} (h:i<D.length):elt (D.set i v) k=if k=i then v else elt D k:=by
 simp only [elt,List.getElem?_set]
 by_cases e:i=k
 ·subst e;simp [h]
 ·rw [if_neg e,if_neg (fun h=>e h.symm)]
def sw (D:List Rest) (i j:Nat):List Rest:=(D.set i (elt D j)).set j (elt D i)
theorem d8S {D:List Rest} {i j k:Nat} (hi:i<D.length) (hj:j<D.length):elt (sw D i j) k=if k=j then elt D i else if k=i then elt D j else elt D k:=by
 rw [sw,d9o (by simpa using hj),d9o hi]
theorem d9U {D:List Rest} {i j:Nat} (hi:i<D.length) (hj:j<D.length):(sw D i j).Perm D:=by
 have e1:elt D j=D[j]:=by simp [elt,hj]
 have e2:elt D i=D[i]:=by simp [elt,hi]
 rw [sw,e1,e2]
 exact List.set_set_perm hi hj
structure Seg (D D':List Rest) (a b:Nat):Prop where
 perm:D'.Perm D
 out:∀ k,k<a\/b<=k->elt D' k=elt D k
theorem Seg.len {D D':List Rest} {a b:Nat} (h:Seg D D' a b):D'.length=D.length:=h.perm.length_eq
theorem Seg.refl (D:List Rest) (a b:Nat):Seg D D a b:=⟨List.Perm.refl _,fun _ _=>rfl⟩
theorem Seg.trans {D D' D'':List Rest} {a b:Nat} (h:Seg D D' a b) (h':Seg D' D'' a b):Seg D D'' a b :=
 ⟨h'.perm.trans h.perm,fun k hk=>(h'.out k hk).trans (h.out k hk)⟩
theorem Seg.mono {D D':List Rest} {a b c d:Nat} (h:Seg D D' a b) (h1:c<=a) (h2:b<=d):Seg D D' c d:=⟨h.perm,fun k hk=>h.out k (by omega)⟩
theorem Seg.sw {D:List Rest} {a b i j:Nat} (hi:i<D.length) (hj:j<D.length) (h1:a<=i/\i<b) (h2:a<=j/\j<b):Seg D (St.sw D i j) a b :=
 ⟨d9U hi hj,fun k hk=>by rw [d8S hi hj,if_neg (by omega),if_neg (by omega)]⟩
theorem Seg.all {D D':List Rest} {a b:Nat} (h:Seg D D' a b) (hb:b<=D.length) (p:Rest->Prop) (hp:∀ k,a<=k->k<b->p (elt D k)):∀ k,a<=k->k<b->p (elt D' k):=by
 have hl:=h.len
 have e1:D'.take a=D.take a:=by
  apply List.ext_getElem?
  intro k
  rw [List.getElem?_take,List.getElem?_take]
  split
  ·by_cases hk:k<D.length
   ·have:=h.out k (.inl (by omega))
    rw [d8b (by omega),d8b (by omega),this]
   ·rw [List.getElem?_eq_none (by omega),List.getElem?_eq_none (by omega)]
  ·rfl
 have e2:D'.drop b=D.drop b:=by
  apply List.ext_getElem?
  intro k
  rw [List.getElem?_drop,List.getElem?_drop]
  by_cases hk:b+k<D.length
  ·have:=h.out (b+k) (.inr (by omega))
   rw [d8b (by omega),d8b (by omega),this]
  ·rw [List.getElem?_eq_none (by omega),List.getElem?_eq_none (by omega)]
 intro k h1 h2
 have split:∀ L:List Rest,L.take a++((L.take b).drop a++L.drop b)=L:=fun L=>by
  have:L.take a=(L.take b).take a:=by rw [List.take_take,Nat.min_eq_left (by omega)]
  rw [this, ← List.append_assoc,List.take_append_drop,List.take_append_drop]
 have hp':=h.perm
 rw [← split D, ← split D',e1,e2,List.perm_append_left_iff,List.perm_append_right_iff] at hp'
 have hm:elt D' k∈(D'.take b).drop a:=by
  refine List.mem_of_getElem? (i:=k - a) ?_
  rw [List.getElem?_drop,show a+(k - a)=k by omega,List.getElem?_take,if_pos h2,d8b (by omega)]
 have hm2:=hp'.mem_iff.1 hm
 obtain ⟨i,hi⟩:=List.getElem?_of_mem hm2
 rw [List.getElem?_drop,List.getElem?_take] at hi
 split at hi
 ·rw [d8b (by omega)] at hi
  rw [← Option.some.inj hi]
  exact hp (a+i) (by omega) (by omega)
 ·cases hi
section
variable {Γ:Env}
end
end Go.Pm.St
namespace Go.Pm.St
open Ac
section
variable {Γ:Env} [P04 Γ] [G04 Γ]
end
end Go.Pm.St
namespace Go.Pm.St
open Ac
section
variable {Γ:Env} [P04 Γ] [G04 Γ]
end
end Go.Pm.St
namespace Go.Pm.St
open Ac
structure Part (D0 D:List Rest) (a b:Nat) (x:Rest) (i j:Nat):Prop where
 seg:Seg D0 D a b
 piv:elt D a=x
 lo:∀ k,a<k->k<i->(elt D k).lt x=true
 hi:∀ k,j<k->k<b->(elt D k).lt x=false
 ai:a<i
 ij:i<=j+1
 jb:j<b
theorem Part.done {D0 D:List Rest} {a b i j:Nat} {x:Rest} (h:Part D0 D a b x i j) (hb:b<=D.length) (hij:j<i):a<=j/\j<b/\Seg D0 (sw D j a) a b/\elt (sw D j a) j=x/\(∀ k,a<=k->k<j->(elt (sw D j a) k).lt x=true)/\∀ k,j<k->k<b->(elt (sw D j a) k).lt x=false:=by
 have hai:=h.ai;have hjb:=h.jb;have h3:=h.ij
 have hw:∀ k,elt (sw D j a) k=if k=a then elt D j else if k=j then elt D a else elt D k:=fun k=>d8S (by omega) (by omega)
 refine ⟨by omega,hjb,h.seg.trans (Seg.sw (by omega) (by omega) (by omega) (by omega)),?_,fun k k1 k2=>?_,fun k k1 k2=>?_⟩
 ·rw [hw]
  by_cases e:j=a
  ·rw [if_pos e,e];exact h.piv
  ·rw [if_neg e,if_pos rfl];exact h.piv
 ·rw [hw]
  by_cases e:k=a
  ·rw [if_pos e];exact h.lo j (by omega) (by omega)
  ·rw [if_neg e,if_neg (by omega)];exact h.lo k (by omega) (by omega)
 ·rw [hw,if_neg (by omega),if_neg (by omega)];exact h.hi k k1 k2
section
variable {Γ:Env} [P04 Γ] [G04 Γ]
end
end Go.Pm.St
namespace Go.Pm.St
open Ac
theorem Seg.symm {D D':List Rest} {a b:Nat} (h:Seg D D' a b):Seg D' D a b:=⟨h.perm.symm,fun k hk=>(h.out k hk).symm⟩
def Diff (D:List Rest) (a b:Nat):Prop:=∀ i j,a<=i->i<j->j<b->elt D i≠elt D j
theorem Diff.sub {D:List Rest} {a b c d:Nat} (h:Diff D a b) (h1:a<=c) (h2:d<=b):Diff D c d:=fun i j k1 k2 k3=>h i j (by omega) k2 (by omega)
section
variable {Γ:Env} [P04 Γ] [G04 Γ]
end
end Go.Pm.St
namespace Go.Pm.St
open Ac
def drawn (s:Span) (n:Int):Int:=s.lo+turn n (s.hi - s.lo+1)
section
variable {Γ:Env} [P04 Γ]
@[go_sem] theorem d0l (a b c:Int):K Γ (.fn 29) [vi a,vi b,vi c] []=some (vb (within a b c),[]):=by
 rw [K_fn P04.f29 _ _ rfl]
 (simp only [go_sem,simprocAttr,a2w];repeat' (first|((first|refine brY ?_|refine brN ?_|refine brA ?_|refine brD ?_|refine brF ?_|((first|apply a0k|apply a0j);(· intro h;simp only [go_sem,simprocAttr,a0p h,a2w];exact rfl)));(try simp only [go_sem,simprocAttr,a2w]))|((first|apply a0e|apply d7E|apply a0a)<;>intro h<;>(try simp only [go_sem,simprocAttr,h,a2w]))))
 all_goals (simp_all [within];try (intros;omega))
@[go_sem] theorem c7G (a b:Int):K Γ (.fn 33) [vi a,vi b] []=some (.agg [ci a,ci b],[]):=by
 rw [K_fn P04.f33 _ _ rfl]
 simp only [go_sem,simprocAttr,a3N]
@[go_sem] theorem d0m (a:Int):K Γ (.fn 30) [vi a] []=some (.agg [ci a,ci a],[]):=by
 rw [K_fn P04.f30 _ _ rfl]
 simp only [go_sem,simprocAttr,a4A]
@[go_sem] theorem c0w (k k':SK) (l m:List Int) (hl:l.length<=1000000) (hm:m.length<=1000000):K Γ (.fn 23) [.sc (.sl k 1 (l.map fun x=>[ci x])),.sc (.sl k' 1 (m.map fun x=>[ci x]))] []=some (vb (decide (l=m)),[]):=by
 rw [K_fn P04.f23 _ _ rfl]
 by_cases hlm:(l.length:Int)=m.length
 ·have d1:=decide_eq_true hlm
  have hz:(l.zip m).length=l.length:=by simp [List.length_zip];omega
  simp only [go_sem,simprocAttr,a3l,d1]
  refine (b5G (fun i (a:Bool)=>⟨[(0,.sc (.sl k 1 (l.map fun x=>[ci x]))),(1,.sc (.sl k' 1 (m.map fun x=>[ci x]))),(5,vb a),(6,vi i)],[]⟩) (l.zip m)
   (fun i a p=>if a then .inl (decide (p.1=p.2)) else .inr (.exit 0,⟨[(0,.sc (.sl k 1 (l.map fun x=>[ci x]))),(1,.sc (.sl k' 1 (m.map fun x=>[ci x]))),(5,vb false),(6,vi i),(18,vb false)],[]⟩))
   (fun a=>(.exit 0,⟨[(0,.sc (.sl k 1 (l.map fun x=>[ci x]))),(1,.sc (.sl k' 1 (m.map fun x=>[ci x]))),(5,vb a),(6,vi (l.zip m).length),(18,vb false)],[]⟩)) _ ?_ ?_ ?_ true).trans ?_
  ·intro i a p a' hp hf
   obtain ⟨h1,h2⟩:=List.getElem?_zip_eq_some.1 hp
   have d1:=decide_eq_true (show (i:Int)<l.length by have:=(List.getElem?_eq_some_iff.1 h1).1;omega)
   have hi:IntKind.i64.wrap ((i:Int)+1)=i+1:=wrap_i64 (by have:=(List.getElem?_eq_some_iff.1 h1).1;omega) (by have:=(List.getElem?_eq_some_iff.1 h1).1;omega)
   cases a with
   | false=>simp at hf
   | true =>
    simp only [if_true,Sum.inl.injEq] at hf
    subst hf
    (simp only [go_sem,simprocAttr,a1b,h1,h2,d1,hi];repeat' ((first|refine brY ?_|refine brN ?_|refine brA ?_|refine brD ?_|refine brF ?_);(try simp only [go_sem,simprocAttr,a1b,h1,h2,d1,hi])))
    rfl
  ·intro i a p r hp hf
   cases a with
   | true=>simp at hf
   | false =>
    simp only [Bool.false_eq_true,if_false,Sum.inr.injEq] at hf
    subst hf
    (simp only [go_sem,simprocAttr,a1b];repeat' ((first|refine brY ?_|refine brN ?_|refine brA ?_|refine brD ?_|refine brF ?_);(try simp only [go_sem,simprocAttr,a1b])))
  ·intro a
   have d1:decide (((l.zip m).length:Int)<l.length)=false:=decide_eq_false (by omega)
   cases a with
   | true=>simp only [go_sem,simprocAttr,a1b,d1]
   | false=>simp only [go_sem,simprocAttr,a1b]
  ·have key:∀ (ps:List (Int × Int)) (n:Nat) (a:Bool),∃ j e,a4N (fun (i:Nat) (a:Bool) (p:Int × Int)=>if a then Sum.inl (decide (p.1=p.2)) else Sum.inr (Ex.exit 0,(⟨[(0,.sc (.sl k 1 (l.map fun x=>[ci x]))),(1,.sc (.sl k' 1 (m.map fun x=>[ci x]))),(5,vb false),(6,vi i),(18,vb false)],[]⟩:St)))
    (fun a=>(.exit 0,⟨[(0,.sc (.sl k 1 (l.map fun x=>[ci x]))),(1,.sc (.sl k' 1 (m.map fun x=>[ci x]))),(5,vb a),(6,vi (l.zip m).length),(18,vb false)],[]⟩)) n a ps =
    (.exit 0,⟨[(0,.sc (.sl k 1 (l.map fun x=>[ci x]))),(1,.sc (.sl k' 1 (m.map fun x=>[ci x]))),(5,vb e),(6,vi j),(18,vb false)],[]⟩)/\e=(a&&decide (∀ p,p∈ps->p.1=p.2)):=by
    intro ps
    induction ps with
    | nil=>intro n a;exact ⟨_,a,rfl,by simp⟩
    | cons p ps ih =>
     intro n a
     cases a with
     | false=>exact ⟨n,false,rfl,by simp⟩
     | true =>
      obtain ⟨j,e,h1,h2⟩:=ih (n+1) (decide (p.1=p.2))
      refine ⟨j,e,by simp only [a4N,if_true];exact h1,?_⟩
      rw [h2,Bool.true_and]
      by_cases hp:p.1=p.2
      ·have e1:(∀ q,q∈p::ps->q.1=q.2)<->(∀ q,q∈ps->q.1=q.2):=by simp [hp]
       rw [decide_eq_true hp,Bool.true_and,decide_eq_decide.2 e1]
      ·have e1:¬ (∀ q,q∈p::ps->q.1=q.2):=fun h=>hp (h p (by simp))
       rw [decide_eq_false hp,Bool.false_and,decide_eq_false e1]
   obtain ⟨j,e,h1,h2⟩:=key (l.zip m) 0 true
   rw [h1]
   have he:e=decide (l=m):=by
    rw [h2,Bool.true_and,decide_eq_decide]
    constructor
    ·intro h
     apply List.ext_getElem?
     intro i
     by_cases hi:i<l.length
     ·have hi':i<m.length:=by omega
      have:=h (l[i],m[i]) (List.mem_of_getElem? (List.getElem?_zip_eq_some.2 ⟨List.getElem?_eq_getElem hi,List.getElem?_eq_getElem hi'⟩))
      rw [List.getElem?_eq_getElem hi,List.getElem?_eq_getElem hi']
      exact congrArg some this
     ·rw [List.getElem?_eq_none (by omega),List.getElem?_eq_none (by omega)]
    ·rintro rfl p hp
     obtain ⟨i,hi⟩:=List.getElem?_of_mem hp
     obtain ⟨a1,a2⟩:=List.getElem?_zip_eq_some.1 hi
     rw [a1] at a2;exact Option.some.inj a2
   subst he
   (simp only [go_sem,simprocAttr];repeat' (first|((first|refine brY ?_|refine brN ?_|refine brA ?_|refine brD ?_|refine brF ?_|((first|apply a0k|apply a0j);(· intro h;simp only [go_sem,simprocAttr,a0p h];exact rfl)));(try simp only [go_sem,simprocAttr]))|((first|apply a0e|apply d7E|apply a0a)<;>intro h<;>(try simp only [go_sem,simprocAttr,h]))))
 ·have d1:=decide_eq_false hlm
  have hne:decide (l=m)=false:=decide_eq_false (fun e=>hlm (by rw [e]))
  simp only [go_sem,simprocAttr,a3l,d1,hne,a6n,a1b,a1J]
end
end Go.Pm.St
namespace Go.Pm.St
open Ac
def b1v (set k:Nat):Bool:=decide (a5l .i64 (BitVec.ofInt 64 ((set:Int).fdiv (2 ^ k)) &&& BitVec.ofInt 64 1)=1)
def a7u (b:Book) (i:Nat) (j:Nat):List Rest:=((List.range j).filter fun k=>!b.rest i (b.o+k)).map fun (k:Nat)=>⟨((b.o+k:Nat):Int),i⟩
def Book.free (b:Book) (i:Nat):List Rest:=a7u b i (b.days.length - b.o)
def subN (set:Nat) (l:List Rest) (j:Nat):List Rest:=((List.range j).filter fun k=>b1v set k).filterMap fun k=>l[k]?
def sub (set:Nat) (l:List Rest):List Rest:=subN set l l.length
def a5c (b:Book) (i j:Nat):List (List Rest):=((List.range j).map fun s=>sub s (b.free i)).filter fun l=>b.well (a1M b.F l) i
def Book.alone (b:Book) (i:Nat):List (List Rest):=a5c b i (2 ^ (b.free i).length)
abbrev rl (l:List Rest):List (List C):=l.map Rest.c
section
variable {Γ:Env} [P04 Γ] [G04 Γ]
end
end Go.Pm.St
namespace Go.Pm.St
open Ac
def cmpL (l m:List Rest):Int:=match a0z (fun i (x:Rest)=>match m[i]? with|some y=>!decide (x.cmp y=0)|none=>true) 0 l with
 | some (i,x)=>(match m[i]? with|some y=>x.cmp y|none=>1)
 | none=>if l.length<m.length then -1 else 0
def better (l m:List Rest):Bool:=decide ((if cmp3 l.length m.length=0 then cmpL l m else cmp3 l.length m.length)<0)
section
variable {Γ:Env} [P04 Γ] [G04 Γ]
end
/-! ### The best plan -/
def Book.look (b:Book) (a:Option (List Rest)) (l:List Rest):Option (List Rest):=match a with
 | none=>if b.enough (a1M b.F (a1w l)) then some (a1w l) else none
 | some best=>if best.length<l.length then a else if better (a1w l) best&&b.enough (a1M b.F (a1w l)) then some (a1w l) else a
end Go.Pm.St
namespace Go.Pm.St
open Ac
abbrev KL:=SK × List Rest
def a2P (p:KL) (own:List Rest):KL:=match own with
 | []=>(topK p.1,p.2)
 | _::_=>(.shared,p.2++own)
def ow (p:KL) (own:List Rest):C:=match own with
 | []=>.sl (topK p.1) 2 (rl p.2)
 | _::_=>.own false 2 (rl (p.2++own))
theorem b9W (p:KL) (own:List Rest) (n:Nat):C.under n (ow p own)=true:=by cases own<;>rfl
attribute [go_sem] b9W
def Book.a0V (b:Book):Nat->List KL
 | 0=>[(.nil,[])]
 | i+1=>(b.a0V i).flatMap fun p=>(b.alone i).map (a2P p)
section
variable {Γ:Env} [P04 Γ] [G04 Γ]
end
end Go.Pm.St
namespace Go.Pm.St
open Ac
theorem c0R {t:List (Nat × V)} {i:Nat} {h:List Obj} {k:SK} {es:Nat} {l:List (List C)} (hi:get t i=.sc (.sl k es l)):a3G i ⟨t,h⟩=some ⟨t,h⟩:=by
 simp only [a3G,hi]
def Book.looks (b:Book) (ps:List KL):Option (List Rest):=ps.foldl (fun a p=>b.look a p.2) none
section
variable {b:Book} {l best:List Rest}
end
section
variable {Γ:Env} [P04 Γ] [G04 Γ]
def Book.best (b:Book):Option (List Rest):=b.looks (b.a0V b.singers.length)
def Book.plan (b:Book):List Rest × Int:=if b.err true=0 then (match b.best with|some l=>(l,0)|none=>([],4)) else ([],b.err true)
def b2o (b:Book):SK:=if b.err true=0 then (match b.best with|some l=>topK (kS l)|none=>.nil) else .nil
end
end Go.Pm.St
namespace Go.Pm.St
open Ac
def chB (needs:Int) (k:SK) (l:List Sign):Book:=⟨.full,[⟨10,11⟩,⟨8,8⟩],⟨2,3⟩,⟨4,4⟩,⟨3,4⟩,.full,[⟨1,1,1⟩,⟨0,1,needs⟩,⟨0,1,1⟩,⟨2,0,1⟩],.nil,[],k,l⟩
def ownX:Book:=chB 1 .nil []
def a7j:Book:=chB 2 .nil []
def sg3:Sign:=⟨0,0,3,0⟩
def sg2:Sign:=⟨1,0,2,0⟩
def a5j:Book:=chB 1 .full [sg3]
def a7e:Book:=chB 1 .full [sg3,sg2]
instance fits_ch (needs:Int) (k:SK):(chB needs k []).Fits:=⟨by simp [chB],by simp [chB],by simp [chB],by simp [chB]⟩
instance fits_own:ownX.Fits:=fits_ch _ _
instance fits_great:a7j.Fits:=fits_ch _ _
instance fits_tried:a5j.Fits:=⟨by simp [a5j,chB],by simp [a5j,chB],by simp [a5j,chB],by simp [a5j,chB]⟩
instance fits_torn:a7e.Fits:=⟨by simp [a7e,chB],by simp [a7e,chB],by simp [a7e,chB],by simp [a7e,chB]⟩
def e5W:List Int->List Rest
 | d::s::l=>⟨d,s⟩::e5W l
 | _=>[]
section
variable {Γ:Env} [P04 Γ] [G04 Γ]
/-! ### What the chapter's examples answer -/
end
end Go.Pm.St
namespace Go.Pm.St
open Ac
section
variable {Γ:Env} [P04 Γ] [G04 Γ]
end
end Go.Pm.St
namespace Go.Pm
variable {β:Type} {Γ:Env}
/-! Maps from two numbers to a bool. -/
def encB (l:List (Int × Int × Bool)):List (List C × List C):=l.map fun e=>([.int .i64 e.1,.int .i64 e.2.1],[.bool e.2.2])
def hasB:List (Int × Int × Bool)->Int->Int->Bool
 | [],_,_=>false
 | e::l,a,b=>(decide (a=e.1)&&decide (b=e.2.1))||hasB l a b
def gotB:List (Int × Int × Bool)->Int->Int->Bool
 | [],_,_=>false
 | e::l,a,b=>if a=e.1/\b=e.2.1 then e.2.2 else gotB l a b
def idxB:List (Int × Int × Bool)->Int->Int->Nat
 | [],_,_=>0
 | e::l,a,b=>if a=e.1/\b=e.2.1 then 0 else idxB l a b+1
def putB:List (Int × Int × Bool)->Int->Int->Bool->List (Int × Int × Bool)
 | [],a,b,v=>[(a,b,v)]
 | e::l,a,b,v=>if a=e.1/\b=e.2.1 then (e.1,e.2.1,v)::l else e::putB l a b v
theorem f1t (a b:Int):∀ (l:List (Int × Int × Bool)) (n:Nat),find [1,1] [.int .i64 a,.int .i64 b] n (encB l)=some (if hasB l a b then some (n+idxB l a b,[.bool (gotB l a b)]) else none)
 | [],n=>rfl
 | e::l,n=>by
  show (match a0c [1,1] [.int .i64 a,.int .i64 b] [.int .i64 e.1,.int .i64 e.2.1] with|some true=>some (some (n,[C.bool e.2.2]))|some false=>find [1,1] [.int .i64 a,.int .i64 b] (n+1) (encB l)|none=>none)=_
  rw [b4A]
  by_cases h:a=e.1/\b=e.2.1
  ·simp [hasB,gotB,idxB,h]
  ·have h':(decide (a=e.1)&&decide (b=e.2.1))=false:=by
    rw [Bool.eq_false_iff];simpa using h
   simp only [h',hasB,gotB,idxB,if_neg h,Bool.false_or]
   rw [f1t a b l (n+1)]
   cases hasB l a b<;>simp<;>omega
theorem f1c:∀ (l:List (Int × Int × Bool)) (a b:Int),hasB l a b=false->gotB l a b=false
 | [],_,_,_=>rfl
 | e::l,a,b,h=>by
  simp only [hasB,Bool.or_eq_false_iff] at h
  have:¬ (a=e.1/\b=e.2.1):=by simpa using h.1
  simp only [gotB,if_neg this]
  exact f1c l a b h.2
theorem f0v:∀ (l:List (Int × Int × Bool)) (a b:Int) (v:Bool) (c d:Int),gotB (putB l a b v) c d=if c=a/\d=b then v else gotB l c d
 | [],a,b,v,c,d=>rfl
 | e::l,a,b,v,c,d=>by
  by_cases h:a=e.1/\b=e.2.1
  ·simp only [putB,if_pos h,gotB]
   obtain ⟨rfl,rfl⟩:=h
   split<;>rfl
  ·simp only [putB,if_neg h,gotB,f0v l]
   by_cases h2:c=e.1/\d=e.2.1
   ·rw [if_pos h2,if_neg,if_pos h2]
    rintro ⟨rfl,rfl⟩;exact h ⟨h2.1,h2.2⟩
   ·simp only [if_neg h2]
theorem f0L:∀ (l:List (Int × Int × Bool)) (a b:Int) (v:Bool),hasB l a b=true->setAt (idxB l a b) [.bool v] (encB l)=encB (putB l a b v)
 | [],_,_,_,h=>by cases h
 | e::l,a,b,v,h=>by
  by_cases h2:a=e.1/\b=e.2.1
  ·simp [idxB,putB,h2,encB,setAt]
  ·have h':(decide (a=e.1)&&decide (b=e.2.1))=false:=by rw [Bool.eq_false_iff];simpa using h2
   simp only [hasB,h',Bool.false_or] at h
   have:=f0L l a b v h
   simp only [idxB,putB,if_neg h2]
   simp only [setAt,encB,List.map_cons,List.getElem?_cons_succ,List.set_cons_succ] at this ⊢
   split at this<;>simp_all
theorem f1i:∀ (l:List (Int × Int × Bool)) (a b:Int) (v:Bool),hasB l a b=false->encB l++[([.int .i64 a,.int .i64 b],[.bool v])]=encB (putB l a b v)
 | [],_,_,_,_=>rfl
 | e::l,a,b,v,h=>by
  simp only [hasB,Bool.or_eq_false_iff] at h
  have h2:¬ (a=e.1/\b=e.2.1):=by simpa using h.1
  have:=f1i l a b v h.2
  simp only [putB,if_neg h2]
  simp only [encB,List.map_cons,List.cons_append] at this ⊢
  rw [this]
@[go_sem] theorem f4x (h:List Obj) (l:List (Int × Int × Bool)) (a b:Int) :
 looked h false ⟨true,[1,1]⟩ (.sc (.bool false)) (.agg [.int .i64 a,.int .i64 b]) (.sc (.imap true false (encB l)))=some (.sc (.bool (gotB l a b))):=by
 have:=f1t a b l 0
 simp only [looked,entries,fits,V.isAgg,V.cells,this,List.length_cons,List.length_nil]
 cases hh:hasB l a b with
 | true=>simp [a7I]
 | false=>simp [f1c l a b hh]
def e9D (o:Option Obj) (ty:KT) (key v:V):Option Obj :=
 match o with
 | some (.map ka va l none)=>if C.a0v key.cells/\C.a0v v.cells/\proper va v/\fits ty key/\ka=ty.agg then
  match find ty.tags key.cells 0 l with
  | some (some (i,_))=>some (.map ka va (setAt i v.cells l) none)
  | some none=>some (.map ka va (l++[(key.cells,v.cells)]) none)
  | none=>none
  else none
 | _=>none
@[go_sem] theorem f7q (base:Nat) (d:Option Nat) (t:List (Nat × V)) (h:List Obj) (k:St->Option β) (ty:KT) (m key v:Rand) :
 P1 Γ base d (.mupd ty m key v) ⟨t,h⟩ k=b6K (rd Γ t m) fun p=>a0L (e9D (h[p]?) ty (rd Γ t key) (rd Γ t v)) fun o=>k ⟨put1 d (.tup []) t,h.set p o⟩:=by
 simp only [P1,perform,eff]
 cases rd Γ t m with
 | sc c=>cases c with
  | map p =>
   simp only [b4L,e9D]
   cases h[p]? with
   | none=>rfl
   | some o=>cases o with
    | map ka va l ph=>cases ph with
     | none =>
      simp only
      by_cases hc:C.a0v (rd Γ t key).cells/\C.a0v (rd Γ t v).cells/\proper va (rd Γ t v)/\fits ty (rd Γ t key)/\ka=ty.agg
      ·simp only [if_pos hc]
       cases find ty.tags (rd Γ t key).cells 0 l with
       | none=>rfl
       | some q=>cases q with
        | none=>rfl
        | some q=>rfl
      ·simp only [if_neg hc];rfl
     | some kz=>rfl
    | _=>rfl
  | _=>rfl
 | _=>rfl
@[go_sem] theorem f1g (l:List (Int × Int × Bool)) (a b:Int) (v:Bool) :
 e9D (some (.map true false (encB l) none)) ⟨true,[1,1]⟩ (.agg [.int .i64 a,.int .i64 b]) (.sc (.bool v))=some (.map true false (encB (putB l a b v)) none):=by
 have hf:=f1t a b l 0
 have hc:C.a0v (V.agg [.int .i64 a,.int .i64 b]).cells/\C.a0v (V.sc (.bool v)).cells/\proper false (.sc (.bool v))/\fits ⟨true,[1,1]⟩ (.agg [.int .i64 a,.int .i64 b])/\true=(⟨true,[1,1]⟩:KT).agg:=by
  refine ⟨?_,?_,?_,?_,?_⟩<;>simp [V.cells,proper,fits,go_sem]
 change (if C.a0v (V.agg [.int .i64 a,.int .i64 b]).cells/\C.a0v (V.sc (.bool v)).cells/\proper false (.sc (.bool v))/\fits ⟨true,[1,1]⟩ (.agg [.int .i64 a,.int .i64 b])/\true=(⟨true,[1,1]⟩:KT).agg then (match find [1,1] [.int .i64 a,.int .i64 b] 0 (encB l) with|some (some (i,_))=>some (Obj.map true false (setAt i [.bool v] (encB l)) none)|some none=>some (Obj.map true false (encB l++[([C.int .i64 a,C.int .i64 b],[C.bool v])]) none)|none=>none) else none)=_
 rw [if_pos hc,hf]
 cases hh:hasB l a b with
 | true=>simp only [if_true,Nat.zero_add,f0L l a b v hh]
 | false=>simp only [Bool.false_eq_true,if_false,f1i l a b v hh]
end Go.Pm
namespace Go.Pm.St
structure Move where
 bed:Int
 day:Int
 deriving DecidableEq
structure Hear where
 bed:Int
 day:Int
 cough:Bool
structure CBook where
 beds:Int
 days:Int
 begins:Int
 til:Int
 o:Span
 g:Span
 km:SK
 moves:List Move
 rooms:Int
 kh:SK
 heard:List Hear
def Span.ofDays (s:Span):Bool:=decide (1<=s.lo)&&decide (s.lo<=s.hi)&&decide (s.hi<=3)&&decide (s.hi - s.lo<=1)
def CBook.e7i (b:CBook) (bed day:Int):Bool:=within bed 0 (b.beds - 1)&&within day 0 (b.days - 1)
def CBook.e6Q (b:CBook) (bed day:Int):Bool:=within bed 0 (IntKind.i64.wrap (b.beds - 1))&&within day 0 (IntKind.i64.wrap (b.days - 1))
def f1Y (l:List Move) (j:Nat) (x:Move):Bool:=(l.take j).any fun y=>decide (y.bed=x.bed)
def CBook.e9B (b:CBook) (j:Nat) (x:Move):Bool:=b.e7i x.bed x.day&&decide (0<x.day)&&!f1Y b.moves j x
def CBook.e6R (b:CBook) (j:Nat):Bool:=(List.range j).all fun k=>match b.moves[k]? with|some x=>b.e9B k x|none=>true
def CBook.valid (b:CBook):Bool :=
 (within b.beds 1 5&&within b.days 1 6&&within b.til 0 (b.days - 1)&&b.o.ofDays&&b.g.ofDays&&within b.rooms 0 3&&decide ((b.moves.length:Int)<=3)&&decide ((b.heard.length:Int)<=4)) &&
 within b.begins 1 (2 ^ b.beds.toNat - 1)&&b.e6R b.moves.length&&b.heard.all fun x=>b.e7i x.bed x.day
structure CSane (b:CBook):Prop where
 b1:1<=b.beds/\b.beds<=5
 d1:1<=b.days/\b.days<=6
 t0:0<=b.til/\b.til<b.days
 o1:1<=b.o.lo/\b.o.lo<=b.o.hi/\b.o.hi<=3/\b.o.hi - b.o.lo<=1
 g1:1<=b.g.lo/\b.g.lo<=b.g.hi/\b.g.hi<=3/\b.g.hi - b.g.lo<=1
 m3:b.moves.length<=3
 h4:b.heard.length<=4
 bg:1<=b.begins/\b.begins<2 ^ b.beds.toNat
 mv:∀ x∈b.moves,(0<=x.bed/\x.bed<b.beds)/\(0<x.day/\x.day<b.days)
 hd:∀ x∈b.heard,(0<=x.bed/\x.bed<b.beds)/\(0<=x.day/\x.day<b.days)
theorem CBook.e8J {b:CBook} {bed day:Int}:b.e7i bed day=true<->(0<=bed/\bed<b.beds)/\(0<=day/\day<b.days):=by
 simp only [CBook.e7i,Bool.and_eq_true,within_iff];omega
theorem Span.f1w {s:Span}:s.ofDays=true<->1<=s.lo/\s.lo<=s.hi/\s.hi<=3/\s.hi - s.lo<=1:=by
 simp only [Span.ofDays,Bool.and_eq_true,decide_eq_true_eq,and_assoc]
theorem e7y {b:CBook} (h:b.valid=true):CSane b:=by
 simp only [CBook.valid,Bool.and_eq_true,within_iff,decide_eq_true_eq,Span.f1w,List.all_eq_true,CBook.e8J,CBook.e6R,List.mem_range] at h
 obtain ⟨⟨⟨⟨⟨⟨⟨⟨⟨⟨h1,h2⟩,h3⟩,h4⟩,h5⟩,h6⟩,h7⟩,h8⟩,h9⟩,h10⟩,h11⟩:=h
 refine ⟨h1,h2,by omega,h4,h5,by omega,by omega,⟨h9.1,by omega⟩,fun x hx=>?_,h11⟩
 obtain ⟨i,hi⟩:=List.mem_iff_getElem?.1 hx
 have:=h10 i (List.getElem?_eq_some_iff.1 hi).1
 rw [hi] at this
 simp only [CBook.e9B,Bool.and_eq_true,decide_eq_true_eq,CBook.e8J] at this
 exact ⟨this.1.1.1,this.1.2,this.1.1.2.2⟩
/-! ### Who is away, and who catches it -/
def CBook.away (b:CBook) (bed day:Int):Bool:=b.moves.any fun x=>decide (x.bed=bed)&&decide (x.day<=day)
end Go.Pm.St
namespace Go.Pm.St
open Ac
def Move.c (x:Move):List C:=[ci x.bed,ci x.day]
section
variable (x:Move)
@[go_sem] theorem Move.c_0:x.c[0]?=some (ci x.bed):=nrfl rfl
@[go_sem] theorem Move.c_1:x.c[1]?=some (ci x.day):=nrfl rfl
@[go_sem] theorem Move.c_un:x.c.map a0r=x.c:=nrfl rfl
@[go_sem] theorem Move.b1w:C.a0v x.c=true:=nrfl rfl
@[go_sem] theorem Move.b3L:a0R x.c 0 2=some x.c:=nrfl rfl
@[go_sem] theorem Move.b3N:x.c.length=2:=nrfl rfl
@[go_sem] theorem Move.b0w (n:Nat):C.a0G n x.c=true:=a0C n _ rfl
@[go_sem] theorem Move.b3O (z0 z1:C):a1H [z0,z1] 0 x.c=x.c:=nrfl rfl
@[go_sem] theorem Move.b3M (b:Nat) (h:List Obj):frzL b h 128 x.c=some x.c:=by simp only [Move.c,go_sem]
end
def Hear.c (x:Hear):List C:=[ci x.bed,ci x.day,.bool x.cough]
section
variable (x:Hear)
@[go_sem] theorem Hear.c_0:x.c[0]?=some (ci x.bed):=nrfl rfl
@[go_sem] theorem Hear.c_1:x.c[1]?=some (ci x.day):=nrfl rfl
@[go_sem] theorem Hear.c_2:x.c[2]?=some (.bool x.cough):=nrfl rfl
@[go_sem] theorem Hear.c_un:x.c.map a0r=x.c:=nrfl rfl
@[go_sem] theorem Hear.b1w:C.a0v x.c=true:=nrfl rfl
@[go_sem] theorem Hear.b3L:a0R x.c 0 3=some x.c:=nrfl rfl
@[go_sem] theorem Hear.b3N:x.c.length=3:=nrfl rfl
@[go_sem] theorem Hear.b0w (n:Nat):C.a0G n x.c=true:=a0C n _ rfl
@[go_sem] theorem Hear.b3O (z0 z1 z2:C):a1H [z0,z1,z2] 0 x.c=x.c:=nrfl rfl
@[go_sem] theorem Hear.b3M (b:Nat) (h:List Obj):frzL b h 128 x.c=some x.c:=by simp only [Hear.c,go_sem]
end
def CBook.c (x:CBook):List C:=[ci x.beds,ci x.days,ci x.begins,ci x.til,ci x.o.lo,ci x.o.hi,ci x.g.lo,ci x.g.hi,.sl x.km 2 (x.moves.map Move.c),ci x.rooms,.sl x.kh 3 (x.heard.map Hear.c)]
section
variable (x:CBook)
@[go_sem] theorem CBook.c_0:x.c[0]?=some (ci x.beds):=nrfl rfl
@[go_sem] theorem CBook.c_1:x.c[1]?=some (ci x.days):=nrfl rfl
@[go_sem] theorem CBook.c_2:x.c[2]?=some (ci x.begins):=nrfl rfl
@[go_sem] theorem CBook.c_3:x.c[3]?=some (ci x.til):=nrfl rfl
@[go_sem] theorem CBook.c_4:x.c[4]?=some (ci x.o.lo):=nrfl rfl
@[go_sem] theorem CBook.c_5:x.c[5]?=some (ci x.o.hi):=nrfl rfl
@[go_sem] theorem CBook.c_6:x.c[6]?=some (ci x.g.lo):=nrfl rfl
@[go_sem] theorem CBook.c_7:x.c[7]?=some (ci x.g.hi):=nrfl rfl
@[go_sem] theorem CBook.c_8:x.c[8]?=some (.sl x.km 2 (x.moves.map Move.c)):=nrfl rfl
@[go_sem] theorem CBook.c_9:x.c[9]?=some (ci x.rooms):=nrfl rfl
@[go_sem] theorem CBook.c_10:x.c[10]?=some (.sl x.kh 3 (x.heard.map Hear.c)):=nrfl rfl
@[go_sem] theorem CBook.f8i:a0R x.c 4 2=some [ci x.o.lo,ci x.o.hi]:=nrfl rfl
@[go_sem] theorem CBook.f8k:a0R x.c 6 2=some [ci x.g.lo,ci x.g.hi]:=nrfl rfl
@[go_sem] theorem CBook.f8j:a0R x.c 4 4=some [ci x.o.lo,ci x.o.hi,ci x.g.lo,ci x.g.hi]:=nrfl rfl
@[go_sem] theorem CBook.c_un:x.c.map a0r=x.c:=nrfl rfl
@[go_sem] theorem CBook.b1w:C.a0v x.c=true:=nrfl rfl
@[go_sem] theorem CBook.b3L:a0R x.c 0 11=some x.c:=nrfl rfl
@[go_sem] theorem CBook.b3N:x.c.length=11:=nrfl rfl
@[go_sem] theorem CBook.b0w (n:Nat):C.a0G n x.c=true:=a0C n _ rfl
@[go_sem] theorem CBook.b3O (z0 z1 z2 z3 z4 z5 z6 z7 z8 z9 z10:C):a1H [z0,z1,z2,z3,z4,z5,z6,z7,z8,z9,z10] 0 x.c=x.c:=nrfl rfl
@[go_sem] theorem CBook.b3M (b:Nat) (h:List Obj):frzL b h 128 x.c=some x.c:=by simp only [CBook.c,go_sem]
end
class CBook.Fits (b:CBook):Prop where
 m:b.moves.length<=9223372036854775807
 h:b.heard.length<=9223372036854775807
theorem e9Z (es:Nat) (k:SK) (l:List (List C)) (j:Nat) (hj:j<=l.length):∃ k',sliced es (.sc (.sl k es l)) none (some (.sc (.int .i64 j))) none=some (.sl k' es (l.take j)):=by
 have h1:(j:Int)<=l.length:=by omega
 cases k<;>simp [sliced,bounds,a9O,b4b,b4c,bound,capOf,a7p,h1,hj]
theorem f3f {α:Type} (p:α->Bool) (l:List α):(a0z (fun _ x=>p x) 0 l).isSome=l.any p:=by
 rw [Bool.eq_iff_iff,Option.isSome_iff_ne_none,List.any_eq_true]
 constructor
 ·intro h
  cases h0:a0z (fun _ x=>p x) 0 l with
  | none=>exact absurd h0 h
  | some q =>
   obtain ⟨-,h1,h2, -⟩:=a3F h0
   exact ⟨q.2,List.mem_of_getElem? h1,h2⟩
 ·rintro ⟨x,hx,hp⟩ h0
  obtain ⟨i,hi⟩:=List.mem_iff_getElem?.1 hx
  have:=a2L.1 h0 i x hi
  rw [hp] at this;cases this
section
variable {Γ:Env} [P04 Γ] [G04 Γ]
@[go_sem] theorem f6H (a b c:Int):K Γ (.fn 298) [vi a,vi b,vi c] []=some (vb (within a b c),[]):=by
 rw [K_fn P04.f298 _ _ rfl]
 (simp only [go_sem,simprocAttr,e7c];repeat' (first|((first|refine brY ?_|refine brN ?_|refine brA ?_|refine brD ?_|refine brF ?_|((first|apply a0k|apply a0j);(· intro h;simp only [go_sem,simprocAttr,a0p h,e7c];exact rfl)));(try simp only [go_sem,simprocAttr,e7c]))|((first|apply a0e|apply d7E|apply a0a)<;>intro h<;>(try simp only [go_sem,simprocAttr,h,e7c]))))
 all_goals (simp_all [within];try (intros;omega))
theorem e9T (s:Span):K Γ (.fn 299) [.agg [ci s.lo,ci s.hi]] []=some (vb s.ofDays,[]):=by
 by_cases h1:1<=s.lo
 ·have d1:=decide_eq_true h1
  by_cases h2:s.lo<=s.hi
  ·have d2:=decide_eq_true h2
   by_cases h3:s.hi<=3
   ·have d3:=decide_eq_true h3
    have w:IntKind.i64.wrap (s.hi - s.lo)=s.hi - s.lo:=wrap_i64 (by omega) (by omega)
    simp only [Span.ofDays,d1,d2,d3,Bool.true_and]
    rw [K_fn P04.f299 _ _ rfl]
    simp only [go_sem,simprocAttr,e5m,d1,d2,d3,w]
   ·have d3:=decide_eq_false h3
    simp only [Span.ofDays,d1,d2,d3,Bool.true_and,Bool.false_and]
    rw [K_fn P04.f299 _ _ rfl]
    simp only [go_sem,simprocAttr,e5m,d1,d2,d3]
  ·have d2:=decide_eq_false h2
   simp only [Span.ofDays,d1,d2,Bool.true_and,Bool.false_and]
   rw [K_fn P04.f299 _ _ rfl]
   simp only [go_sem,simprocAttr,e5m,d1,d2]
 ·have d1:=decide_eq_false h1
  simp only [Span.ofDays,d1,Bool.false_and]
  rw [K_fn P04.f299 _ _ rfl]
  simp only [go_sem,simprocAttr,e5m,d1]
theorem e8E (b:CBook) (n d:Int):K Γ (.fn 291) [.agg b.c,vi n,vi d] []=some (vb (b.e6Q n d),[]):=by
 simp only [CBook.e6Q]
 cases h:within n 0 (IntKind.i64.wrap (b.beds - 1)) with
 | false=>rw [K_fn P04.f291 _ _ rfl];simp only [go_sem,simprocAttr,e6g,h,Bool.false_and]
 | true=>rw [K_fn P04.f291 _ _ rfl];simp only [go_sem,simprocAttr,e6g,h,Bool.true_and]
theorem e8I {b:CBook} (h1:1<=b.beds/\b.beds<=5) (h2:1<=b.days/\b.days<=6) (n d:Int):b.e6Q n d=b.e7i n d:=by
 rw [CBook.e6Q,wrap_i64 (by omega) (by omega),wrap_i64 (by omega) (by omega)];rfl
theorem f3k (x y:Move):K Γ (.fn 300) [.agg y.c,.sc (.eptr x.c 0)] []=some (vb (decide (y.bed=x.bed)),[]):=by
 rw [K_fn P04.f300 _ _ rfl]
 simp only [go_sem,simprocAttr,e6T]
theorem f1R (k:SK) (x:Move) (l:List Move) (hl:l.length<=1000):K Γ (.fn 315) [.sc (.sl k 2 (l.map Move.c)),.sc (.fn (.fn 300) [] [] [.eptr x.c 0])] [] =
 some (vi (match a0z (fun _ (y:Move)=>decide (y.bed=x.bed)) 0 l with|some q=>q.1|none => -1),[]):=by
 have h1:=fun y=>f3k (Γ:=Γ) x y
 have hL {β:Type} (Q:Ex->St->Option β):E Γ e6f ⟨[(0,.sc (.sl k 2 (l.map Move.c))),(1,.sc (.fn (.fn 300) [] [] [.eptr x.c 0])),(7,vi l.length),(8,vi 0)],[]⟩ Q =
  match a0z (fun _ (y:Move)=>decide (y.bed=x.bed)) 0 l with
  | some q=>Q .ret ⟨[(4,vi q.1)],[]⟩
  | none=>Q (.exit 0) ⟨[(0,.sc (.sl k 2 (l.map Move.c))),(1,.sc (.fn (.fn 300) [] [] [.eptr x.c 0])),(7,vi l.length),(8,vi l.length),(9,vb false)],[]⟩:=by
  refine (a4L (fun j=>⟨[(0,.sc (.sl k 2 (l.map Move.c))),(1,.sc (.fn (.fn 300) [] [] [.eptr x.c 0])),(7,vi l.length),(8,vi j)],[]⟩) l (fun _ (y:Move)=>decide (y.bed=x.bed))
   (fun i _=>(.ret,⟨[(4,vi i)],[]⟩)) (.exit 0,⟨[(0,.sc (.sl k 2 (l.map Move.c))),(1,.sc (.fn (.fn 300) [] [] [.eptr x.c 0])),(7,vi l.length),(8,vi l.length),(9,vb false)],[]⟩) Q ?_ ?_ ?_).trans ?_
  ·intro j y hy hf
   have hlt':=(List.getElem?_eq_some_iff.1 hy).1
   have hlt:=decide_eq_true (show (j:Int)<l.length by omega)
   have hiw:IntKind.i64.wrap ((j:Int)+1)=j+1:=wrap_i64 (by omega) (by omega)
   have h2:=h1 y
   rw [hf] at h2
   (simp only [go_sem,simprocAttr,e4w,hy,hlt,hiw,h2,List.length_map];repeat' ((first|refine brY ?_|refine brN ?_|refine brA ?_|refine brD ?_|refine brF ?_);(try simp only [go_sem,simprocAttr,e4w,hy,hlt,hiw,h2,List.length_map])))
   rfl
  ·intro j y hy hf
   have hlt':=(List.getElem?_eq_some_iff.1 hy).1
   have hlt:=decide_eq_true (show (j:Int)<l.length by omega)
   have h2:=h1 y
   rw [hf] at h2
   (simp only [go_sem,simprocAttr,e4w,hy,hlt,h2,List.length_map];repeat' ((first|refine brY ?_|refine brN ?_|refine brA ?_|refine brD ?_|refine brF ?_);(try simp only [go_sem,simprocAttr,e4w,hy,hlt,h2,List.length_map])))
  ·have hlt:=decide_eq_false (show ¬ (l.length:Int)<l.length by omega)
   simp only [go_sem,simprocAttr,e4w,hlt,List.length_map]
  ·cases a0z (fun _ (y:Move)=>decide (y.bed=x.bed)) 0 l<;>rfl
 cases h0:a0z (fun _ (y:Move)=>decide (y.bed=x.bed)) 0 l with
 | none=>simp only [h0] at hL;rw [K_fn P04.f315 _ _ rfl];simp only [go_sem,simprocAttr,e4C,hL,List.length_map]
 | some q=>simp only [h0] at hL;rw [K_fn P04.f315 _ _ rfl];simp only [go_sem,simprocAttr,e4C,hL,List.length_map]
theorem f1P (k:SK) (x:Move) (l:List Move) (hl:l.length<=1000):K Γ (.fn 301) [.sc (.sl k 2 (l.map Move.c)),.sc (.fn (.fn 300) [] [] [.eptr x.c 0])] []=some (vb (l.any fun y=>decide (y.bed=x.bed)),[]):=by
 have h:=f1R (Γ:=Γ) k x l hl
 rw [← f3f]
 cases h0:a0z (fun _ (y:Move)=>decide (y.bed=x.bed)) 0 l with
 | none =>
  rw [h0] at h
  rw [K_fn P04.f301 _ _ rfl]
  simp only [go_sem,simprocAttr,e4A,h,Option.isSome_none]
 | some q =>
  rw [h0] at h
  have d:=decide_eq_true (show (0:Int)<=q.1 by omega)
  rw [K_fn P04.f301 _ _ rfl]
  simp only [go_sem,simprocAttr,e4A,h,d,Option.isSome_some]
end
end Go.Pm.St
namespace Go.Pm.St
open Ac
theorem f0B (b:CBook) {j:Nat} {x:Move} (hx:b.moves[j]?=some x):b.e6R (j+1)=(b.e6R j&&b.e9B j x):=by
 simp [CBook.e6R,List.range_succ,hx]
def CBook.base (b:CBook):Bool:=within b.beds 1 5&&within b.days 1 6&&within b.til 0 (b.days - 1)&&b.o.ofDays&&b.g.ofDays&&within b.rooms 0 3&&decide ((b.moves.length:Int)<=3)&&decide ((b.heard.length:Int)<=4)
theorem e8P {b:CBook} (h:b.base=true):(1<=b.beds/\b.beds<=5)/\(1<=b.days/\b.days<=6)/\b.moves.length<=3/\b.heard.length<=4:=by
 simp only [CBook.base,Bool.and_eq_true,within_iff,decide_eq_true_eq] at h
 obtain ⟨⟨⟨⟨⟨⟨⟨h1,h2⟩,h3⟩,h4⟩,h5⟩,h6⟩,h7⟩,h8⟩:=h
 exact ⟨h1,h2,by omega,by omega⟩
theorem f2X {n:Int} (h:1<=n/\n<=5):IntKind.i64.wrap (IntKind.i64.wrap (1*2 ^ (n.toNat.min IntKind.i64.bits)) - 1)=2 ^ n.toNat - 1:=by
 have:n=1\/n=2\/n=3\/n=4\/n=5:=by omega
 rcases this with rfl|rfl|rfl|rfl|rfl<;>decide
section
variable {Γ:Env} [P04 Γ] [G04 Γ]
theorem f3l (b:CBook) [hb:b.Fits] (ok:Bool) (h:ok=true->b.base=true) {β:Type} (Q:Ex->St->Option β) :
 E Γ e8N ⟨[(1,.sc (.ptr 0 0)),(3,vb ok),(64,.sc (.sl b.km 2 (b.moves.map Move.c))),(65,vi b.moves.length),(66,vi 0)],[.var b.c]⟩ Q =
 Q (.exit 0) ⟨[(1,.sc (.ptr 0 0)),(3,vb (ok&&b.e6R b.moves.length)),(64,.sc (.sl b.km 2 (b.moves.map Move.c))),(65,vi b.moves.length),(66,vi b.moves.length),(67,vb false)],[.var b.c]⟩:=by
 have hbm:=hb.m
 refine (a4Q (fun j=>⟨[(1,.sc (.ptr 0 0)),(3,vb (ok&&b.e6R j)),(64,.sc (.sl b.km 2 (b.moves.map Move.c))),(65,vi b.moves.length),(66,vi j)],[.var b.c]⟩) b.moves
  (.exit 0,⟨[(1,.sc (.ptr 0 0)),(3,vb (ok&&b.e6R b.moves.length)),(64,.sc (.sl b.km 2 (b.moves.map Move.c))),(65,vi b.moves.length),(66,vi b.moves.length),(67,vb false)],[.var b.c]⟩) Q ?_ ?_ ?_).trans ?_
 ·simp [CBook.e6R]
 ·intro j x hx
  have hj:=(List.getElem?_eq_some_iff.1 hx).1
  have hlt:=decide_eq_true (show (j:Int)<b.moves.length by omega)
  have hjw:IntKind.i64.wrap ((j:Int)+1)=j+1:=wrap_i64 (by omega) (by omega)
  rw [f0B b hx]
  cases ok with
  | false =>
   simp only [Bool.false_and]
   (simp only [go_sem,simprocAttr,e4N,hx,hlt,hjw,List.length_map];repeat' ((first|refine brY ?_|refine brN ?_|refine brA ?_|refine brD ?_|refine brF ?_);(try simp only [go_sem,simprocAttr,e4N,hx,hlt,hjw,List.length_map])))
   rfl
  | true =>
   obtain ⟨h1,h2,h3,h4⟩:=e8P (h rfl)
   simp only [Bool.true_and]
   cases hm:b.e6R j with
   | false =>
    simp only [Bool.false_and]
    (simp only [go_sem,simprocAttr,e4N,hx,hlt,hjw,List.length_map];repeat' ((first|refine brY ?_|refine brN ?_|refine brA ?_|refine brD ?_|refine brF ?_);(try simp only [go_sem,simprocAttr,e4N,hx,hlt,hjw,List.length_map])))
    rfl
   | true =>
    have hs:=e8E (Γ:=Γ) b x.bed x.day
    rw [e8I h1 h2] at hs
    obtain ⟨k',hS⟩:=e9Z 2 b.km (b.moves.map Move.c) j (by rw [List.length_map];omega)
    rw [← List.map_take] at hS
    have hM:=f1P (Γ:=Γ) k' x (b.moves.take j) (by rw [List.length_take];omega)
    simp only [Bool.true_and,CBook.e9B,f1Y]
    cases hsp:b.e7i x.bed x.day with
    | false =>
     rw [hsp] at hs
     simp only [Bool.false_and]
     (simp only [go_sem,simprocAttr,e4N,hx,hlt,hjw,hs,List.length_map];repeat' ((first|refine brY ?_|refine brN ?_|refine brA ?_|refine brD ?_|refine brF ?_);(try simp only [go_sem,simprocAttr,e4N,hx,hlt,hjw,hs,List.length_map])))
     rfl
    | true =>
     rw [hsp] at hs
     by_cases h0:0<x.day
     ·have d0:=decide_eq_true h0
      simp only [d0,Bool.true_and]
      (simp only [go_sem,simprocAttr,e4N,hx,hlt,hjw,hs,d0,hS,hM,List.length_map];repeat' ((first|refine brY ?_|refine brN ?_|refine brA ?_|refine brD ?_|refine brF ?_);(try simp only [go_sem,simprocAttr,e4N,hx,hlt,hjw,hs,d0,hS,hM,List.length_map])))
      rfl
     ·have d0:=decide_eq_false h0
      simp only [d0,Bool.true_and,Bool.false_and]
      (simp only [go_sem,simprocAttr,e4N,hx,hlt,hjw,hs,d0,List.length_map];repeat' ((first|refine brY ?_|refine brN ?_|refine brA ?_|refine brD ?_|refine brF ?_);(try simp only [go_sem,simprocAttr,e4N,hx,hlt,hjw,hs,d0,List.length_map])))
      rfl
 ·have hlt:=decide_eq_false (show ¬ (b.moves.length:Int)<b.moves.length by omega)
  (simp only [go_sem,simprocAttr,e4N,hlt];repeat' ((first|refine brY ?_|refine brN ?_|refine brA ?_|refine brD ?_|refine brF ?_);(try simp only [go_sem,simprocAttr,e4N,hlt])))
 ·rfl
theorem f3m (b:CBook) [hb:b.Fits] (ok:Bool) (h:ok=true->b.base=true) {β:Type} (Q:Ex->St->Option β) :
 E Γ e8O ⟨[(1,.sc (.ptr 0 0)),(3,vb ok),(96,.sc (.sl b.kh 3 (b.heard.map Hear.c))),(97,vi b.heard.length),(98,vi 0)],[.var b.c]⟩ Q =
 Q (.exit 2) ⟨[(1,.sc (.ptr 0 0)),(3,vb (ok&&b.heard.all fun x=>b.e7i x.bed x.day)),(96,.sc (.sl b.kh 3 (b.heard.map Hear.c))),(97,vi b.heard.length),(98,vi b.heard.length),(99,vb false)],[.var b.c]⟩:=by
 have hbm:=hb.h
 refine (a4Q (fun j=>⟨[(1,.sc (.ptr 0 0)),(3,vb (ok&&(b.heard.take j).all fun x=>b.e7i x.bed x.day)),(96,.sc (.sl b.kh 3 (b.heard.map Hear.c))),(97,vi b.heard.length),(98,vi j)],[.var b.c]⟩) b.heard
  (.exit 2,⟨[(1,.sc (.ptr 0 0)),(3,vb (ok&&b.heard.all fun x=>b.e7i x.bed x.day)),(96,.sc (.sl b.kh 3 (b.heard.map Hear.c))),(97,vi b.heard.length),(98,vi b.heard.length),(99,vb false)],[.var b.c]⟩) Q ?_ ?_ ?_).trans ?_
 ·simp
 ·intro j x hx
  have hj:=(List.getElem?_eq_some_iff.1 hx).1
  have hlt:=decide_eq_true (show (j:Int)<b.heard.length by omega)
  have hjw:IntKind.i64.wrap ((j:Int)+1)=j+1:=wrap_i64 (by omega) (by omega)
  rw [take_snoc hx,List.all_append,List.all_cons,List.all_nil,Bool.and_true, ← Bool.and_assoc]
  cases ok with
  | false =>
   simp only [Bool.false_and]
   (simp only [go_sem,simprocAttr,e5h,hx,hlt,hjw,List.length_map];repeat' ((first|refine brY ?_|refine brN ?_|refine brA ?_|refine brD ?_|refine brF ?_);(try simp only [go_sem,simprocAttr,e5h,hx,hlt,hjw,List.length_map])))
   rfl
  | true =>
   obtain ⟨h1,h2,h3,h4⟩:=e8P (h rfl)
   simp only [Bool.true_and]
   have hs:=e8E (Γ:=Γ) b x.bed x.day
   rw [e8I h1 h2] at hs
   cases hm:(b.heard.take j).all fun x=>b.e7i x.bed x.day with
   | false =>
    simp only [Bool.false_and]
    (simp only [go_sem,simprocAttr,e5h,hx,hlt,hjw,List.length_map];repeat' ((first|refine brY ?_|refine brN ?_|refine brA ?_|refine brD ?_|refine brF ?_);(try simp only [go_sem,simprocAttr,e5h,hx,hlt,hjw,List.length_map])))
    rfl
   | true =>
    simp only [Bool.true_and]
    (simp only [go_sem,simprocAttr,e5h,hx,hlt,hjw,hs,List.length_map];repeat' ((first|refine brY ?_|refine brN ?_|refine brA ?_|refine brD ?_|refine brF ?_);(try simp only [go_sem,simprocAttr,e5h,hx,hlt,hjw,hs,List.length_map])))
    rfl
 ·have hlt:=decide_eq_false (show ¬ (b.heard.length:Int)<b.heard.length by omega)
  rw [List.take_length]
  (simp only [go_sem,simprocAttr,e5h,hlt];repeat' ((first|refine brY ?_|refine brN ?_|refine brA ?_|refine brD ?_|refine brF ?_);(try simp only [go_sem,simprocAttr,e5h,hlt])))
 ·rfl
theorem e8D (b:CBook) [hb:b.Fits]:K Γ (.fn 267) [.agg b.c] []=some (vi (if b.valid then 0 else 30),[]):=by
 have hv:b.valid=(b.base&&within b.begins 1 (2 ^ b.beds.toNat - 1)&&b.e6R b.moves.length&&b.heard.all fun x=>b.e7i x.bed x.day):=rfl
 have ho:=e9T (Γ:=Γ) b.o
 have hg:=e9T (Γ:=Γ) b.g
 have h0 {β:Type} (ok:Bool) (h:ok=true->b.base=true) (Q:Ex->St->Option β):=f3l (Γ:=Γ) b ok h Q
 have h1 {β:Type} (ok:Bool) (h:ok=true->b.base=true) (Q:Ex->St->Option β):=f3m (Γ:=Γ) b ok h Q
 rw [hv]
 cases hbase:b.base with
 | false =>
  have h0f {β:Type} (Q:Ex->St->Option β):=h0 (β:=β) false (fun h=>by cases h) Q
  have h1f {β:Type} (Q:Ex->St->Option β):=h1 (β:=β) false (fun h=>by cases h) Q
  simp only [Bool.false_and] at h0f h1f ⊢
  simp only [CBook.base] at hbase
  cases c1:within b.beds 1 5 with
  | false=>rw [K_fn P04.f267 _ _ rfl];simp only [go_sem,simprocAttr,e4D,c1,h0f,h1f,ho,hg]
  | true =>
   cases c2:within b.days 1 6 with
   | false=>rw [K_fn P04.f267 _ _ rfl];simp only [go_sem,simprocAttr,e4D,c1,c2,h0f,h1f,ho,hg]
   | true =>
    have hdw:IntKind.i64.wrap (b.days - 1)=b.days - 1:=by have:=within_iff.1 c2;exact wrap_i64 (by omega) (by omega)
    cases c3:within b.til 0 (b.days - 1) with
    | false=>rw [K_fn P04.f267 _ _ rfl];simp only [go_sem,simprocAttr,e4D,c1,c2,hdw,c3,h0f,h1f,ho,hg]
    | true =>
     cases c4:b.o.ofDays with
     | false=>rw [c4] at ho;rw [K_fn P04.f267 _ _ rfl];simp only [go_sem,simprocAttr,e4D,c1,c2,hdw,c3,h0f,h1f,ho,hg]
     | true =>
      rw [c4] at ho
      cases c5:b.g.ofDays with
      | false=>rw [c5] at hg;rw [K_fn P04.f267 _ _ rfl];simp only [go_sem,simprocAttr,e4D,c1,c2,hdw,c3,h0f,h1f,ho,hg]
      | true =>
       rw [c5] at hg
       cases c6:within b.rooms 0 3 with
       | false=>rw [K_fn P04.f267 _ _ rfl];simp only [go_sem,simprocAttr,e4D,c1,c2,hdw,c3,h0f,h1f,ho,hg,c6]
       | true =>
        by_cases h7:(b.moves.length:Int)<=3
        ·have c7:=decide_eq_true h7
         have c8:decide ((b.heard.length:Int)<=4)=false:=by simpa [c1,c2,c3,c4,c5,c6,c7] using hbase
         rw [K_fn P04.f267 _ _ rfl]
         simp only [go_sem,simprocAttr,e4D,c1,c2,hdw,c3,h0f,h1f,ho,hg,c6,c7,c8,List.length_map]
        ·have c7:=decide_eq_false h7
         rw [K_fn P04.f267 _ _ rfl]
         (simp only [go_sem,simprocAttr,e4D,c1,c2,hdw,c3,h0f,h1f,ho,hg,c6,c7,List.length_map];repeat' ((first|refine brY ?_|refine brN ?_|refine brA ?_|refine brD ?_|refine brF ?_);(try simp only [go_sem,simprocAttr,e4D,c1,c2,hdw,c3,h0f,h1f,ho,hg,c6,c7,List.length_map])))
 | true =>
  obtain ⟨hbd,hdd, -, -⟩:=e8P hbase
  have hsh:=f2X hbd
  simp only [CBook.base,Bool.and_eq_true] at hbase
  obtain ⟨⟨⟨⟨⟨⟨⟨c1,c2⟩,c3⟩,c4⟩,c5⟩,c6⟩,c7⟩,c8⟩:=hbase
  have hdw:IntKind.i64.wrap (b.days - 1)=b.days - 1:=wrap_i64 (by omega) (by omega)
  have hn:=decide_eq_true hbd.1
  rw [c4] at ho;rw [c5] at hg
  have hbt:b.base=true:=by simp only [CBook.base,c1,c2,c3,c4,c5,c6,c7,c8,Bool.and_self]
  simp only [Bool.true_and]
  cases c9:within b.begins 1 (2 ^ b.beds.toNat - 1) with
  | false =>
   have h0f {β:Type} (Q:Ex->St->Option β):=h0 (β:=β) false (fun h=>by cases h) Q
   have h1f {β:Type} (Q:Ex->St->Option β):=h1 (β:=β) false (fun h=>by cases h) Q
   simp only [Bool.false_and] at h0f h1f ⊢
   rw [K_fn P04.f267 _ _ rfl]
   (simp only [go_sem,simprocAttr,e4D,c1,c2,hdw,c3,h0f,h1f,ho,hg,c6,c7,c8,c9,hsh,List.length_map];repeat' ((first|refine brY ?_|refine brN ?_|refine brA ?_|refine brD ?_|refine brF ?_);(try simp only [go_sem,simprocAttr,e4D,c1,c2,hdw,c3,h0f,h1f,ho,hg,c6,c7,c8,c9,hsh,List.length_map])))
  | true =>
   have h0f {β:Type} (Q:Ex->St->Option β):=h0 (β:=β) true (fun _=>hbt) Q
   have h1f {β:Type} (Q:Ex->St->Option β):=h1 (β:=β) (b.e6R b.moves.length) (fun _=>hbt) Q
   simp only [Bool.true_and] at h0f ⊢
   cases c10:b.e6R b.moves.length&&b.heard.all fun x=>b.e7i x.bed x.day with
   | false =>
    rw [c10] at h1f
    rw [K_fn P04.f267 _ _ rfl]
    (simp only [go_sem,simprocAttr,e4D,c1,c2,hdw,c3,h0f,h1f,ho,hg,c6,c7,c8,c9,hsh,List.length_map];repeat' ((first|refine brY ?_|refine brN ?_|refine brA ?_|refine brD ?_|refine brF ?_);(try simp only [go_sem,simprocAttr,e4D,c1,c2,hdw,c3,h0f,h1f,ho,hg,c6,c7,c8,c9,hsh,List.length_map])))
   | true =>
    rw [c10] at h1f
    rw [K_fn P04.f267 _ _ rfl]
    (simp only [go_sem,simprocAttr,e4D,c1,c2,hdw,c3,h0f,h1f,ho,hg,c6,c7,c8,c9,hsh,List.length_map];repeat' ((first|refine brY ?_|refine brN ?_|refine brA ?_|refine brD ?_|refine brF ?_);(try simp only [go_sem,simprocAttr,e4D,c1,c2,hdw,c3,h0f,h1f,ho,hg,c6,c7,c8,c9,hsh,List.length_map])))
end
end Go.Pm.St
namespace Go.Pm.St
structure Cold where
 bed:Int
 day:Int
 out:Int
 goes:Int
 c0:Int
 c1:Int
 c2:Int
 c3:Int
 c4:Int
def Cold.l (w:Cold):List Int:=[w.c0,w.c1,w.c2,w.c3,w.c4]
def Cold.at (w:Cold) (i:Int):Int:=w.l.getD i.toNat 0
def e9u (bed day out goes:Int) (l:List Int):Cold:=⟨bed,day,out,goes,l.getD 0 0,l.getD 1 0,l.getD 2 0,l.getD 3 0,l.getD 4 0⟩
theorem f4S {l:List Int} (h:l.length=5):[l.getD 0 0,l.getD 1 0,l.getD 2 0,l.getD 3 0,l.getD 4 0]=l:=by
 match l,h with
 | [a,b,c,d,e],_=>rfl
theorem f0n {bed day out goes:Int} {l:List Int} (h:l.length=5):(e9u bed day out goes l).l=l:=f4S h
def e7z (A:Int->Int->Bool) (g beds:Int) (l:List Int) (day near:Int):Bool :=
 within near 0 (beds - 1)&&decide (0<=l.getD near.toNat 0)&&decide (l.getD near.toNat 0+g=day)&&!A near day
def catches (A:Int->Int->Bool) (g beds:Int) (l:List Int) (day bed:Int):Bool :=
 !(decide (0<=l.getD bed.toNat 0)||A bed day)&&(e7z A g beds l day (bed - 1)||e7z A g beds l day (bed+1))
def dayN (A:Int->Int->Bool) (g beds:Int) (l:List Int) (day:Int):Nat->List Int
 | 0=>l
 | i+1=>if catches A g beds l day i then (dayN A g beds l day i).set i day else dayN A g beds l day i
def e6S (A:Int->Int->Bool) (g beds:Int):Nat->List Int->Int->List Int
 | 0,l,_=>l
 | n+1,l,day=>e6S A g beds n (dayN A g beds l day beds.toNat) (day+1)
theorem e8F (A:Int->Int->Bool) (g beds:Int) (l:List Int) (day:Int):∀ i,(dayN A g beds l day i).length=l.length
 | 0=>rfl
 | i+1=>by
  simp only [dayN];split
  ·rw [List.length_set,e8F A g beds l day i]
  ·exact e8F A g beds l day i
theorem e8u (A:Int->Int->Bool) (g beds:Int):∀ (n:Nat) (l:List Int) (day:Int),(e6S A g beds n l day).length=l.length
 | 0,_,_=>rfl
 | n+1,l,day=>by
  simp only [e6S]
  rw [e8u A g beds n,e8F]
def e5Q:List Int:=[-1, -1, -1, -1, -1]
def CBook.spread (b:CBook) (A:Int->Int->Bool) (bed day goes:Int):List Int:=e6S A goes b.beds (b.days - (day+1)).toNat (e5Q.set bed.toNat day) (day+1)
theorem f1D (b:CBook) (A:Int->Int->Bool) (bed day goes:Int):(b.spread A bed day goes).length=5:=by
 simp [CBook.spread,e8u,e5Q]
def Cold.e6J (w:Cold) (bed day:Int):Bool:=decide (0<=w.at bed)&&decide (w.at bed+w.out<=day)
def Cold.ill (w:Cold) (bed day:Int):Bool:=within (w.at bed) 0 day
def CBook.right (b:CBook) (w:Cold):Bool:=!b.heard.any fun x=>decide (w.e6J x.bed x.day≠x.cough)
/-! ### All ways -/
def CBook.e7P (b:CBook) (A:Int->Int->Bool) (bed day:Nat) (out goes:Int):Cold:=e9u bed day out goes (b.spread A bed day goes)
def CBook.e6H (b:CBook) (A:Int->Int->Bool) (bed day:Nat) (out:Int):Nat->List Cold
 | 0=>[]
 | j+1=>b.e6H A bed day out j++if b.right (b.e7P A bed day out (b.g.lo+j)) then [b.e7P A bed day out (b.g.lo+j)] else []
def Span.many (s:Span):Nat:=(s.hi - s.lo+1).toNat
def CBook.outN (b:CBook) (A:Int->Int->Bool) (bed day:Nat):Nat->List Cold
 | 0=>[]
 | j+1=>b.outN A bed day j++b.e6H A bed day (b.o.lo+j) b.g.many
def CBook.dayL (b:CBook) (A:Int->Int->Bool) (bed:Nat):Nat->List Cold
 | 0=>[]
 | d+1=>b.dayL A bed d++if A bed d then [] else b.outN A bed d b.o.many
def CBook.clean (b:CBook) (i:Nat):Bool:=decide (a5l .i64 (BitVec.ofInt 64 (b.begins.fdiv (2 ^ i)) &&& BitVec.ofInt 64 1)=0)
def CBook.bedL (b:CBook) (A:Int->Int->Bool):Nat->List Cold
 | 0=>[]
 | i+1=>b.bedL A i++if b.clean i then [] else b.dayL A i (b.til+1).toNat
def CBook.ways (b:CBook) (A:Int->Int->Bool):List Cold:=b.bedL A b.beds.toNat
theorem e8S (b:CBook) (A:Int->Int->Bool) (bed day:Nat) (out:Int):∀ j,(b.e6H A bed day out j).length<=j
 | 0=>Nat.le_refl _
 | j+1=>by
  have:=e8S b A bed day out j
  simp only [CBook.e6H,List.length_append]
  split<;>simp<;>omega
theorem e9P {s:Span} (h:s.hi - s.lo<=1):s.many<=2:=by simp only [Span.many];omega
theorem e9r {b:CBook} (hs:CSane b) (A:Int->Int->Bool) (bed day:Nat):∀ j,(b.outN A bed day j).length<=2*j
 | 0=>Nat.le_refl _
 | j+1=>by
  have h1:=e9r hs A bed day j
  have h2:=e8S b A bed day (b.o.lo+j) b.g.many
  have h3:=e9P hs.g1.2.2.2
  simp only [CBook.outN,List.length_append];omega
theorem e9k {b:CBook} (hs:CSane b) (A:Int->Int->Bool) (bed:Nat):∀ d,(b.dayL A bed d).length<=4*d
 | 0=>Nat.le_refl _
 | d+1=>by
  have h1:=e9k hs A bed d
  have h2:=e9r hs A bed d b.o.many
  have h3:=e9P hs.o1.2.2.2
  simp only [CBook.dayL,List.length_append]
  split
  ·simp;omega
  ·omega
theorem e9j {b:CBook} (hs:CSane b) (A:Int->Int->Bool):∀ i,(b.bedL A i).length<=24*i
 | 0=>Nat.le_refl _
 | i+1=>by
  have h1:=e9j hs A i
  have h2:=e9k hs A i (b.til+1).toNat
  have h3:=hs.t0;have h4:=hs.d1
  simp only [CBook.bedL,List.length_append]
  split
  ·simp;omega
  ·omega
/-! ### Who has it keeps it -/
theorem e8R (A:Int->Int->Bool) (g beds:Int) (l:List Int) (day:Int) {i:Nat} (h:0<=l.getD i 0):∀ n,(dayN A g beds l day n).getD i 0=l.getD i 0
 | 0=>rfl
 | n+1=>by
  simp only [dayN]
  split
  ·rename_i hc
   have hne:n≠i:=by
    rintro rfl
    simp only [catches,Int.toNat_natCast,decide_eq_true h,Bool.true_or,Bool.not_true,Bool.false_and] at hc
    cases hc
   rw [← e8R A g beds l day h n]
   simp only [List.getD,List.getElem?_set_ne hne]
  ·exact e8R A g beds l day h n
theorem e8V (A:Int->Int->Bool) (g beds:Int) {i:Nat}:∀ (n:Nat) (l:List Int) (day:Int),0<=l.getD i 0->(e6S A g beds n l day).getD i 0=l.getD i 0
 | 0,_,_,_=>rfl
 | n+1,l,day,h=>by
  have h1:=e8R A g beds l day h beds.toNat
  simp only [e6S]
  rw [e8V A g beds n _ (day+1) (by rw [h1];exact h),h1]
theorem f0V (b:CBook) (A:Int->Int->Bool) {bed day:Nat} (hb:bed<5) (goes:Int):(b.spread A bed day goes).getD bed 0=day:=by
 have h:(e5Q.set bed (day:Int)).getD bed 0=day:=by
  simp only [List.getD,List.getElem?_set_self (show bed<e5Q.length by simp [e5Q];omega),Option.getD_some]
 simp only [CBook.spread,Int.toNat_natCast]
 rw [e8V A goes b.beds _ _ _ (by rw [h];omega),h]
theorem f2p (b:CBook) (A:Int->Int->Bool) {bed day:Nat} (hb:bed<5) (goes:Int):b.spread A bed day goes≠e5Q:=by
 intro e
 have:=f0V b A hb (day:=day) goes
 rw [e] at this
 have hc:bed=0\/bed=1\/bed=2\/bed=3\/bed=4:=by omega
 rcases hc with rfl|rfl|rfl|rfl|rfl<;>simp [e5Q] at this<;>omega
end Go.Pm.St
namespace Go.Pm.St
open Ac
def Cold.c (x:Cold):List C:=[ci x.bed,ci x.day,ci x.out,ci x.goes,ci x.c0,ci x.c1,ci x.c2,ci x.c3,ci x.c4]
section
variable (x:Cold)
@[go_sem] theorem Cold.c_0:x.c[0]?=some (ci x.bed):=nrfl rfl
@[go_sem] theorem Cold.c_1:x.c[1]?=some (ci x.day):=nrfl rfl
@[go_sem] theorem Cold.c_2:x.c[2]?=some (ci x.out):=nrfl rfl
@[go_sem] theorem Cold.c_3:x.c[3]?=some (ci x.goes):=nrfl rfl
@[go_sem] theorem Cold.c_4:x.c[4]?=some (ci x.c0):=nrfl rfl
@[go_sem] theorem Cold.c_5:x.c[5]?=some (ci x.c1):=nrfl rfl
@[go_sem] theorem Cold.c_6:x.c[6]?=some (ci x.c2):=nrfl rfl
@[go_sem] theorem Cold.c_7:x.c[7]?=some (ci x.c3):=nrfl rfl
@[go_sem] theorem Cold.c_8:x.c[8]?=some (ci x.c4):=nrfl rfl
@[go_sem] theorem Cold.f8h:a0R x.c 0 2=some [ci x.bed,ci x.day]:=nrfl rfl
@[go_sem] theorem Cold.c_un:x.c.map a0r=x.c:=nrfl rfl
@[go_sem] theorem Cold.b1w:C.a0v x.c=true:=nrfl rfl
@[go_sem] theorem Cold.b3L:a0R x.c 0 9=some x.c:=nrfl rfl
@[go_sem] theorem Cold.b3N:x.c.length=9:=nrfl rfl
@[go_sem] theorem Cold.b0w (n:Nat):C.a0G n x.c=true:=a0C n _ rfl
@[go_sem] theorem Cold.b3O (z0 z1 z2 z3 z4 z5 z6 z7 z8:C):a1H [z0,z1,z2,z3,z4,z5,z6,z7,z8] 0 x.c=x.c:=nrfl rfl
@[go_sem] theorem Cold.b3M (b:Nat) (h:List Obj):frzL b h 128 x.c=some x.c:=by simp only [Cold.c,go_sem]
end
def C13 (b:CBook) (m t:C):List C:=[ci b.beds,ci b.days,ci b.begins,ci b.til,ci b.o.lo,ci b.o.hi,ci b.g.lo,ci b.g.hi,.sl b.km 2 (b.moves.map Move.c),ci b.rooms,.sl b.kh 3 (b.heard.map Hear.c),m,t]
section
variable (b:CBook) (m t:C)
@[go_sem] theorem f7V:(C13 b m t)[0]?=some (ci b.beds):=nrfl rfl
@[go_sem] theorem f7W:(C13 b m t)[1]?=some (ci b.days):=nrfl rfl
@[go_sem] theorem f7X:(C13 b m t)[2]?=some (ci b.begins):=nrfl rfl
@[go_sem] theorem f7Y:(C13 b m t)[3]?=some (ci b.til):=nrfl rfl
@[go_sem] theorem f7Z:(C13 b m t)[4]?=some (ci b.o.lo):=nrfl rfl
@[go_sem] theorem f8a:(C13 b m t)[5]?=some (ci b.o.hi):=nrfl rfl
@[go_sem] theorem f8b:(C13 b m t)[6]?=some (ci b.g.lo):=nrfl rfl
@[go_sem] theorem f8c:(C13 b m t)[7]?=some (ci b.g.hi):=nrfl rfl
@[go_sem] theorem f8d:(C13 b m t)[8]?=some (.sl b.km 2 (b.moves.map Move.c)):=nrfl rfl
@[go_sem] theorem f7z:(C13 b m t)[10]?=some (.sl b.kh 3 (b.heard.map Hear.c)):=nrfl rfl
@[go_sem] theorem f7A:(C13 b m t)[11]?=some m:=nrfl rfl
@[go_sem] theorem f7B:(C13 b m t)[12]?=some t:=nrfl rfl
@[go_sem] theorem f7k:(C13 b m t).length=13:=nrfl rfl
@[go_sem] theorem f7j:a0R (C13 b m t) 0 13=some (C13 b m t):=nrfl rfl
@[go_sem] theorem f8e:a0R (C13 b m t) 0 11=some b.c:=nrfl rfl
@[go_sem] theorem f7C:(C13 b m t).map a0r=C13 b (a0r m) (a0r t):=nrfl rfl
@[go_sem] theorem f4b (c:C):a1H (C13 b m t) 12 [c]=C13 b m c:=nrfl rfl
@[go_sem] theorem f6v (c:C):(C13 b m t).set 12 c=C13 b m c:=nrfl rfl
@[go_sem] theorem f4a (c:C):a1H (C13 b m t) 11 [c]=C13 b c t:=nrfl rfl
@[go_sem] theorem f6u (c:C):(C13 b m t).set 11 c=C13 b c t:=nrfl rfl
@[go_sem] theorem f4E (z0 z1 z2 z3 z4 z5 z6 z7 z8 z9 z10:C):a1H [z0,z1,z2,z3,z4,z5,z6,z7,z8,z9,z10,m,t] 0 b.c=C13 b m t:=nrfl rfl
@[go_sem] theorem f6O (z0 z1 z2 z3 z4 z5 z6 z7 z8 z9 z10 z11 z12:C):a1H [z0,z1,z2,z3,z4,z5,z6,z7,z8,z9,z10,z11,z12] 0 (C13 b m t)=C13 b m t:=nrfl rfl
@[go_sem] theorem f6w (n:Nat):C.a0G n (C13 b m t)=C.a0G n [m,t]:=nrfl rfl
@[go_sem] theorem f6P:(C13 b m t).take 13=C13 b m t:=nrfl rfl
@[go_sem] theorem f6M:(C13 b m t).drop 13=[]:=nrfl rfl
@[go_sem] theorem f6N:C.a0v (C13 b m t)=C.a0v [m,t]:=nrfl rfl
end
@[go_sem] theorem Cold.c_l5 (w:Cold):a0R w.c 4 5=some (w.l.map fun x=>ci x):=nrfl rfl
class GCo (Γ:Env):Prop where
 g7:Γ.glob 7=[.fn (.fn 346) [] [] [],.fn (.fn 347) [] [] []]
 g8:Γ.glob 8=[ci (-1),ci (-1)]
 g10:Γ.glob 10=[ci (-1),ci (-1),ci (-1),ci (-1),ci (-1)]
attribute [go_sem] GCo.g7 GCo.g8 GCo.g10
theorem f0o (w:Cold) {i:Nat} (h:i<5):w.c[4+i]?=some (ci (w.at i)):=by
 have:i=0\/i=1\/i=2\/i=3\/i=4:=by omega
 rcases this with rfl|rfl|rfl|rfl|rfl<;>rfl
section
variable {Γ:Env} [P04 Γ] [G04 Γ] [GCo Γ]
theorem f2y (w:Cold) (i:Nat) (hi:i<5) (d:Int) (ha : -1<=w.at i/\w.at i<=100) (ho:0<=w.out/\w.out<=10):K Γ (.fn 343) [.agg w.c,.agg [ci i,ci d]] []=some (vb (w.e6J i d),[]):=by
 have hg:=f0o w hi
 have hlt:=decide_eq_true (show (i:Int)<5 by omega)
 have hw:IntKind.i64.wrap (w.at i+w.out)=w.at i+w.out:=wrap_i64 (by omega) (by omega)
 simp only [Cold.e6J]
 by_cases h0:0<=w.at i
 ·have d0:=decide_eq_true h0
  rw [d0,Bool.true_and]
  rw [K_fn P04.f343 _ _ rfl]
  (simp only [go_sem,simprocAttr,e5q,hg,hlt,hw,d0];repeat' ((first|refine brY ?_|refine brN ?_|refine brA ?_|refine brD ?_|refine brF ?_);(try simp only [go_sem,simprocAttr,e5q,hg,hlt,hw,d0])))
 ·have d0:=decide_eq_false h0
  rw [d0,Bool.false_and]
  rw [K_fn P04.f343 _ _ rfl]
  (simp only [go_sem,simprocAttr,e5q,hg,hlt,hw,d0];repeat' ((first|refine brY ?_|refine brN ?_|refine brA ?_|refine brD ?_|refine brF ?_);(try simp only [go_sem,simprocAttr,e5q,hg,hlt,hw,d0])))
theorem f4P (w:Cold) (i:Nat) (hi:i<5) (d:Int):K Γ (.fn 312) [.agg w.c,.agg [ci i,ci d]] []=some (vb (w.ill i d),[]):=by
 have hg:=f0o w hi
 have hlt:=decide_eq_true (show (i:Int)<5 by omega)
 simp only [Cold.ill]
 rw [K_fn P04.f312 _ _ rfl]
 (simp only [go_sem,simprocAttr,e6x,hg,hlt];repeat' ((first|refine brY ?_|refine brN ?_|refine brA ?_|refine brD ?_|refine brF ?_);(try simp only [go_sem,simprocAttr,e6x,hg,hlt])))
end
end Go.Pm.St
