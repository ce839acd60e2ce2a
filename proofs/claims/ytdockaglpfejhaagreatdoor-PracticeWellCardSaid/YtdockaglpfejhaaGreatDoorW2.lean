/- The plain machine, part 2. -/
import Derived.Test.YtdockaglpfejhaaGreatDoorW1
import Derived.RangeFuncIn
import Derived.Laws.Cells
import Derived.Laws.World
import Derived.Laws.Rows
import Derived.DeepKeys
import Derived.DeepKeys3
import Derived.Laws.CopyRow
set_option linter.all false
set_option maxRecDepth 100000
namespace Go.Pm
structure Seat where
 P:Program
 Γ:Env
 fm:Nat->FuncId
 gm:Nat->Nat
structure Gh where
 σ:Nat->Nat
 A:Nat->Prop
 M:Nat->Nat->Option Value
 N:Nat->Option (Array MapEntry)
structure Gh.Le (g g':Gh):Prop where
 as:∀ r,g.A r->g'.A r
 eq:∀ r,g.A r->g'.σ r=g.σ r
 im:∀ b o v,g.M b o=some v->g'.M b o=some v
 mm:∀ b es,g.N b=some es->g'.N b=some es
theorem Gh.Le.refl (g:Gh):g.Le g:=⟨fun _ h=>h,fun _ _=>rfl,fun _ _ _ h=>h,fun _ _ h=>h⟩
theorem Gh.Le.trans {a b c:Gh} (h:a.Le b) (k:b.Le c):a.Le c :=
 ⟨fun r x=>k.as r (h.as r x),fun r x=>(k.eq r (h.as r x)).trans (h.eq r x),fun b o v x=>k.im b o v (h.im b o v x),fun b es x=>k.mm b es (h.mm b es x)⟩
def Gh.cut (g:Gh) (n:Nat):Gh:={ g with A:=fun r=>g.A r/\r<n }
def a2J:List (Option Nat)->List Value->Option (List Value)
 | [],[]=>some []
 | none::sh,v::vs=>(a2J sh vs).map (v::·)
 | some n::sh,vs=>if n<=vs.length then (a2J sh (vs.drop n)).map (.agg (vs.take n).toArray::·) else none
 | _,_=>none
def ofV (agg:Bool) (vs:List Value):Value:=if agg then .agg vs.toArray else vs.headD undef
def a4O (ks:List Int):Value:=.agg (ks.map (.int .i64)).toArray
def a7s (n:Nat) (f:List Int->Bool) (es:List MapEntry):Prop :=
 (∀ m∈es,∃ ks:List Int,ks.length=n/\m.key=a4O ks/\m.val=.bool true)/\∀ ks:List Int,f ks=true<->∃ m∈es,m.key=a4O ks
inductive RC (S:Seat) (g:Gh):C->Value->Prop
 | int (k:IntKind) (n:Int):RC S g (.int k n) (.int k n)
 | bool (b:Bool):RC S g (.bool b) (.bool b)
 | str (s:ByteArray):RC S g (.str s) (.string s)
 | nilf:RC S g .nilf .nilFunc
 | nilp:RC S g .nilp (.pointer none)
 | nili:RC S g .nili .nilIface
 | slNil (es:Nat):RC S g (.sl .nil es []) (.slice none 0 0)
 | sl (k:SK) (es:Nat) (l:List (List C)) (b off cap:Nat) (vals:Nat->Nat->Value) (hk:k≠.nil) (hf:k=.full->cap=l.length) (hc:l.length<=cap)
  (hl:∀ (i:Nat) (e:List C),l[i]?=some e->e.length=es) (hp:∀ (i:Nat) (e:List C),l[i]?=some e->C.a0v e=true)
  (hM:∀ (i:Nat) (e:List C) (j:Nat),l[i]?=some e->j<es->g.M b (off+i*es+j)=some (vals i j))
  (hr:∀ (i:Nat) (e:List C) (j:Nat) c,l[i]?=some e->e[j]?=some c->RC S g c (vals i j)) :
  RC S g (.sl k es l) (.slice (some ⟨b,off,none⟩) l.length cap)
 | imapNil (ka va:Bool):RC S g (.imap ka va []) (.map none)
 | imap (ka va:Bool) (l:List (List C × List C)) (r:Nat) (es:Array MapEntry) (kv vv:Nat->List Value) (hN:g.N r=some es) (hs:es.size=l.length)
  (hE:∀ (i:Nat) e,l[i]?=some e->∃ m,es[i]?=some m/\m.key=ofV ka (kv i)/\m.val=ofV va (vv i))
  (hL:∀ (i:Nat) e,l[i]?=some e->(kv i).length=e.1.length/\(vv i).length=e.2.length/\(ka=false->e.1.length=1)/\(va=false->e.2.length=1)/\C.a0v e.1=true/\C.a0v e.2=true)
  (hK:∀ (i:Nat) e (j:Nat) c v,l[i]?=some e->e.1[j]?=some c->(kv i)[j]?=some v->RC S g c v)
  (hV:∀ (i:Nat) e (j:Nat) c v,l[i]?=some e->e.2[j]?=some c->(vv i)[j]?=some v->RC S g c v) :
  RC S g (.imap ka va l) (.map (some r))
 | iset (n:Nat) (f:List Int->Bool) (r:Nat) (es:Array MapEntry) (hN:g.N r=some es) (hb:∀ (i:Nat) m,es[i]?=some m->m.born=i) (hE:a7s n f es.toList):RC S g (.iset n f) (.map (some r))
 | eptr (cs:List C) (off b o:Nat) (vals:Nat->Value) (hp:C.a0v cs=true) (hM:∀ j,j<cs.length->g.M b (o+j)=some (vals j))
  (hr:∀ (j:Nat) c,cs[j]?=some c->RC S g c (vals j)):RC S g (.eptr cs off) (.pointer (some ⟨b,o+off,none⟩))
 | fn (id:Nat) (sh:List (Option Nat)) (first cap:List C) (fs fvs cvs:List Value) (hlen:fs.length=first.length) (hu:a2J sh fs=some fvs)
  (hr:∀ (j:Nat) c v,first[j]?=some c->fs[j]?=some v->RC S g c v) (hcl:cvs.length=cap.length)
  (hc:∀ (j:Nat) c v,cap[j]?=some c->cvs[j]?=some v->RC S g c v) :
  RC S g (.fn (.fn id) sh first cap) (.func (.func (S.fm id)) fvs.toArray cvs.toArray)
 | yield (l:Nat) (hA:g.A l):RC S g (.fn (.yield l) [] [] []) (.func (.yield (g.σ l)) #[] #[])
 | ptr (r off:Nat) (hA:g.A r):RC S g (.ptr r off) (.pointer (some ⟨g.σ r,off,none⟩))
 | map (r:Nat) (hA:g.A r):RC S g (.map r) (.map (some (g.σ r)))
 | msl (r off len cap es cap':Nat) (hA:g.A r) (hlen:len<=cap') (hc:cap=0\/cap=cap'):RC S g (.msl r off len cap es) (.slice (some ⟨g.σ r,off,none⟩) len cap')
 | stamp (r i:Nat) (hA:g.A r):RC S g (.stamp r i) (.int .i64 i)
theorem a2d {cs:List C} (h:C.a0v cs=true) {j:Nat} {c:C} (hj:cs[j]?=some c):c.pure=true:=by
 induction cs generalizing j with
 | nil=>simp at hj
 | cons x xs ih =>
  simp only [C.a0v,Bool.and_eq_true] at h
  cases j with
  | zero=>simp at hj;subst hj;exact h.1
  | succ j=>exact ih h.2 (by simpa using hj)
theorem b0j {cs:List C}:C.a0v cs=true<->∀ c∈cs,c.pure=true:=by
 induction cs with
 | nil=>simp [C.a0v]
 | cons x xs ih=>simp [C.a0v,ih]
theorem a7B {n:Nat} {cs:List C} (h:C.a0G n cs=true) {j:Nat} {c:C} (hj:cs[j]?=some c):c.under n=true:=by
 induction cs generalizing j with
 | nil=>simp at hj
 | cons x xs ih =>
  simp only [C.a0G,Bool.and_eq_true] at h
  cases j with
  | zero=>simp at hj;subst hj;exact h.1
  | succ j=>exact ih h.2 (by simpa using hj)
theorem b7c {n:Nat} {cs:List C}:C.a0G n cs=true<->∀ c∈cs,c.under n=true:=by
 induction cs with
 | nil=>simp [C.a0G]
 | cons x xs ih=>simp [C.a0G,ih]
mutual
theorem a6s (n:Nat):∀ c:C,c.pure=true->c.under n=true
 | .int _ _,_ | .bool _,_ | .str _,_ | .sl _ _ _,_ | .imap _ _ _,_ | .iset _ _,_ | .eptr _ _,_ | .nilf,_ | .nilp,_ | .nili,_ | .top,_=>by simp [C.under]
 | .own _ _ _,h | .ptr _ _,h | .map _,h | .msl _ _ _ _ _,h | .stamp _ _,h=>by simp [C.pure] at h
 | .fn f sh first cap,h=>by
  simp only [C.pure,Bool.and_eq_true] at h
  simp only [C.under,Bool.and_eq_true]
  refine ⟨⟨?_,a8b n first h.1.2⟩,a8b n cap h.2⟩
  cases f with
  | fn=>rfl
  | yield=>simp at h
theorem a8b (n:Nat):∀ cs:List C,C.a0v cs=true->C.a0G n cs=true
 | [],_=>rfl
 | c::cs,h=>by
  simp only [C.a0v,Bool.and_eq_true] at h
  simp only [C.a0G,Bool.and_eq_true]
  exact ⟨a6s n c h.1,a8b n cs h.2⟩
end
section
variable {S:Seat} {g g':Gh} {c:C} {v:Value}
theorem RC.mono (h:RC S g c v) (hl:g.Le g'):RC S g' c v:=by
 induction h with
 | int k n=>exact .int k n
 | bool b=>exact .bool b
 | str s=>exact .str s
 | nilf=>exact .nilf
 | nilp=>exact .nilp
 | nili=>exact .nili
 | slNil es=>exact .slNil es
 | sl k es l b off cap vals hk hf hc hl' hp hM hr ih=>exact .sl k es l b off cap vals hk hf hc hl' hp (fun i e j a x=>hl.im _ _ _ (hM i e j a x)) ih
 | imapNil ka va=>exact .imapNil ka va
 | iset n f r es hN' hb hE=>exact .iset n f r es (hl.mm _ _ hN') hb hE
 | imap ka va l r es kv vv hN hs hE hL hK hV ihK ihV=>exact .imap ka va l r es kv vv (hl.mm _ _ hN) hs hE hL ihK ihV
 | eptr cs off b o vals hp hM hr ih=>exact .eptr cs off b o vals hp (fun j hj=>hl.im _ _ _ (hM j hj)) ih
 | fn id sh first cap fs fvs cvs hlen hu hr hcl hc ih1 ih2=>exact .fn id sh first cap fs fvs cvs hlen hu ih1 hcl ih2
 | yield l hA=>rw [← hl.eq l hA];exact .yield l (hl.as l hA)
 | ptr r off hA=>rw [← hl.eq r hA];exact .ptr r off (hl.as r hA)
 | map r hA=>rw [← hl.eq r hA];exact .map r (hl.as r hA)
 | msl r off len cap es cap' hA hlen hc=>rw [← hl.eq r hA];exact .msl r off len cap es cap' (hl.as r hA) hlen hc
 | stamp r i hA=>exact .stamp r i (hl.as r hA)
theorem RC.a3I (h:RC S g c v) (hp:c.pure=true) (hM:∀ b o v,g.M b o=some v->g'.M b o=some v) (hN:∀ b es,g.N b=some es->g'.N b=some es):RC S g' c v:=by
 induction h with
 | int k n=>exact .int k n
 | bool b=>exact .bool b
 | str s=>exact .str s
 | nilf=>exact .nilf
 | nilp=>exact .nilp
 | nili=>exact .nili
 | slNil es=>exact .slNil es
 | sl k es l b off cap vals hk hf hc hl' hp' hM' hr ih =>
  exact .sl k es l b off cap vals hk hf hc hl' hp' (fun i e j a x=>hM _ _ _ (hM' i e j a x)) (fun i e j c a x=>ih i e j c a x (a2d (hp' i e a) x))
 | imapNil ka va=>exact .imapNil ka va
 | iset n f r es hN' hb hE=>exact .iset n f r es (hN _ _ hN') hb hE
 | imap ka va l r es kv vv hN' hs hE hL hK hV ihK ihV =>
  exact .imap ka va l r es kv vv (hN _ _ hN') hs hE hL (fun i e j c v a x y=>ihK i e j c v a x y (a2d (hL i e a).2.2.2.2.1 x)) (fun i e j c v a x y=>ihV i e j c v a x y (a2d (hL i e a).2.2.2.2.2 x))
 | eptr cs off b o vals hp' hM' hr ih=>exact .eptr cs off b o vals hp' (fun j hj=>hM _ _ _ (hM' j hj)) (fun j c x=>ih j c x (a2d hp' x))
 | fn id sh first cap fs fvs cvs hlen hu hr hcl hc ih1 ih2 =>
  simp only [C.pure,Bool.and_eq_true] at hp
  exact .fn id sh first cap fs fvs cvs hlen hu (fun j c v a x=>ih1 j c v a x (a2d hp.1.2 a)) hcl (fun j c v a x=>ih2 j c v a x (a2d hp.2 a))
 | yield l hA=>simp [C.pure] at hp
 | ptr r off hA=>simp [C.pure] at hp
 | map r hA=>simp [C.pure] at hp
 | msl r off len cap es cap' hA hlen hc=>simp [C.pure] at hp
 | stamp r i hA=>simp [C.pure] at hp
theorem RC.cut {n:Nat} (h:RC S g c v) (hu:c.under n=true):RC S (g.cut n) c v:=by
 induction h with
 | int k n=>exact .int k n
 | bool b=>exact .bool b
 | str s=>exact .str s
 | nilf=>exact .nilf
 | nilp=>exact .nilp
 | nili=>exact .nili
 | slNil es=>exact .slNil es
 | sl k es l b off cap vals hk hf hc hl' hp' hM' hr ih =>
  exact .sl k es l b off cap vals hk hf hc hl' hp' hM' (fun i e j c a x=>ih i e j c a x (a6s n c (a2d (hp' i e a) x)))
 | imapNil ka va=>exact .imapNil ka va
 | iset n f r es hN' hb hE=>exact .iset n f r es hN' hb hE
 | imap ka va l r es kv vv hN' hs hE hL hK hV ihK ihV =>
  exact .imap ka va l r es kv vv hN' hs hE hL (fun i e j c v a x y=>ihK i e j c v a x y (a6s n c (a2d (hL i e a).2.2.2.2.1 x))) (fun i e j c v a x y=>ihV i e j c v a x y (a6s n c (a2d (hL i e a).2.2.2.2.2 x)))
 | eptr cs off b o vals hp' hM' hr ih=>exact .eptr cs off b o vals hp' hM' (fun j c x=>ih j c x (a6s n c (a2d hp' x)))
 | fn id sh first cap fs fvs cvs hlen hu' hr hcl hc ih1 ih2 =>
  simp only [C.under,Bool.and_eq_true] at hu
  exact .fn id sh first cap fs fvs cvs hlen hu' (fun j c v a x=>ih1 j c v a x (a7B hu.1.2 a)) hcl (fun j c v a x=>ih2 j c v a x (a7B hu.2 a))
 | yield l hA=>simp [C.under,C.a0G] at hu;exact .yield (g:=g.cut n) l ⟨hA,hu⟩
 | ptr r off hA=>simp [C.under] at hu;exact .ptr (g:=g.cut n) r off ⟨hA,hu⟩
 | map r hA=>simp [C.under] at hu;exact .map (g:=g.cut n) r ⟨hA,hu⟩
 | msl r off len cap es cap' hA hlen hc=>simp [C.under] at hu;exact .msl (g:=g.cut n) r off len cap es cap' ⟨hA,hu⟩ hlen hc
 | stamp r i hA=>simp [C.under] at hu;exact .stamp (g:=g.cut n) r i ⟨hA,hu⟩
theorem a8v {n:Nat} {cs:List C} (h:∀ (j:Nat) c,cs[j]?=some c->c.under n=true):C.a0G n cs=true :=
 b7c.2 fun c hc=>let ⟨j,hj⟩:=List.getElem?_of_mem hc;h j c hj
theorem RC.under {n:Nat} (h:RC S g c v) (hA:∀ r,g.A r->r<n):c.under n=true:=by
 induction h with
 | int _ _|bool _|str _|nilf|nilp|nili|slNil _|sl _ _ _ _ _ _ _ _ _ _ _ _ _ _|imapNil _ _|iset _ _ _ _ _ _ _|imap _ _ _ _ _ _ _ _ _ _ _ _ _|eptr _ _ _ _ _ _ _ _=>rfl
 | fn id sh first cap fs fvs cvs hlen hu hr hcl hc ih1 ih2 =>
  simp only [C.under,Bool.and_eq_true]
  refine ⟨⟨trivial,a8v fun j c hj=>?_⟩,a8v fun j c hj=>?_⟩
  ·have:j<fs.length:=by rw [hlen];exact (List.getElem?_eq_some_iff.1 hj).1
   exact ih1 j c _ hj (List.getElem?_eq_getElem this)
  ·have:j<cvs.length:=by rw [hcl];exact (List.getElem?_eq_some_iff.1 hj).1
   exact ih2 j c _ hj (List.getElem?_eq_getElem this)
 | yield l h=>simpa [C.under,C.a0G] using hA l h
 | ptr r off h=>simpa [C.under] using hA r h
 | map r h=>simpa [C.under] using hA r h
 | msl r off len cap es cap' h _ _=>simpa [C.under] using hA r h
 | stamp r i h=>simpa [C.under] using hA r h
theorem RC.a8Q (h:RC S g c v):c≠.top:=by cases h<;>simp
theorem RC.a2a (h:RC S g c v):∀ p es l,c≠.own p es l:=by cases h<;>simp
theorem RC.a6Y (h:RC S g c v):a0r c=c:=by cases h<;>rfl
theorem RC.cells (h:RC S g c v):v.cells=#[v]:=by cases h<;>rfl
end
theorem Addr.a2h (b o n:Nat):(⟨b,o,none⟩:Addr).add n=⟨b,o+n,none⟩:=by
 unfold Addr.add
 split
 ·rename_i h;subst h;rfl
 ·rfl
inductive RV (S:Seat) (g:Gh):V->Value->Prop
 | top (v:Value):RV S g (.sc .top) v
 | sc (c:C) (v:Value) (h:RC S g c v):RV S g (.sc c) v
 | agg (cs:List C) (vals:Array Value) (hs:cs.length=vals.size) (h:∀ (j:Nat) c v,cs[j]?=some c->vals[j]?=some v->RC S g c v):RV S g (.agg cs) (.agg vals)
 | tup (vs:List V) (ws:Array Value) (hs:vs.length=ws.size) (h:∀ (j:Nat) v w,vs[j]?=some v->ws[j]?=some w->RV S g v w):RV S g (.tup vs) (.tuple ws)
theorem RV.mono {S:Seat} {g g':Gh} {v:V} {w:Value} (h:RV S g v w) (hl:g.Le g'):RV S g' v w:=by
 induction h with
 | top v=>exact .top v
 | sc c v h=>exact .sc c v (h.mono hl)
 | agg cs vals hs h=>exact .agg cs vals hs fun j c v a b=>(h j c v a b).mono hl
 | tup vs ws hs h ih=>exact .tup vs ws hs ih
theorem RV.a6Y {S:Seat} {g:Gh} {v:V} {w:Value} (h:RV S g v w):v.a0r=v:=by
 cases h with
 | top v=>rfl
 | sc c v h=>simp [V.a0r,h.a6Y]
 | agg=>rfl
 | tup=>rfl
theorem RV.a3I {S:Seat} {g g':Gh} {v:V} {w:Value} (h:RV S g v w) (hp:v.pure=true) (hM:∀ b o v,g.M b o=some v->g'.M b o=some v) (hN:∀ b es,g.N b=some es->g'.N b=some es):RV S g' v w:=by
 cases h with
 | top=>exact .top _
 | sc c _ h=>exact .sc c _ (h.a3I hp hM hN)
 | agg cs vals hs h=>exact .agg cs vals hs fun j c v a b=>(h j c v a b).a3I (a2d hp a) hM hN
 | tup vs ws hs h=>simp [V.pure] at hp
theorem b0R {n:Nat}:∀ {vs:List V},V.a2I n vs=true->∀ {j:Nat} {v:V},vs[j]?=some v->v.under n=true
 | [],_,j,v,hj=>by simp at hj
 | x::xs,h,j,v,hj=>by
  simp only [V.a2I,Bool.and_eq_true] at h
  rcases j with _|j
  ·simp at hj;subst hj;exact h.1
  ·exact b0R h.2 (by simpa using hj)
theorem b2x {n:Nat}:∀ {vs:List V},(∀ (j:Nat) v,vs[j]?=some v->v.under n=true)->V.a2I n vs=true
 | [],_=>rfl
 | x::xs,h=>by
  simp only [V.a2I,Bool.and_eq_true]
  exact ⟨h 0 x rfl,b2x fun j v hj=>h (j+1) v (by simpa using hj)⟩
theorem RV.cut {S:Seat} {g:Gh} {v:V} {w:Value} {n:Nat} (h:RV S g v w) (hp:v.under n=true):RV S (g.cut n) v w:=by
 induction h with
 | top=>exact .top _
 | sc c _ h=>exact .sc c _ (h.cut hp)
 | agg cs vals hs h=>exact .agg cs vals hs fun j c v a b=>(h j c v a b).cut (a7B hp a)
 | tup vs ws hs h ih =>
  exact .tup vs ws hs fun j v w a b=>ih j v w a b (b0R (by simpa only [V.under] using hp) a)
theorem RV.under {S:Seat} {g:Gh} {v:V} {w:Value} {n:Nat} (h:RV S g v w) (hA:∀ r,g.A r->r<n):v.under n=true:=by
 induction h with
 | top=>rfl
 | sc c _ h=>exact h.under hA
 | agg cs vals hs h =>
  refine a8v fun j c hj=>?_
  have hlt:j<vals.size:=by rw [← hs];exact (List.getElem?_eq_some_iff.1 hj).1
  exact (h j c _ hj (Array.getElem?_eq_getElem hlt)).under hA
 | tup vs ws hs h ih =>
  simp only [V.under]
  refine b2x fun j v hj=>?_
  have hlt:j<ws.size:=by rw [← hs];exact (List.getElem?_eq_some_iff.1 hj).1
  exact ih j v _ hj (Array.getElem?_eq_getElem hlt)
theorem RV.cells {S:Seat} {g:Gh} {v:V} {w:Value} (h:RV S g v w) (ht:v≠.sc .top) (ht':∀ vs,v≠.tup vs) :
 v.cells.length=w.cells.size/\∀ (j:Nat) c x,v.cells[j]?=some c->w.cells[j]?=some x->RC S g c x:=by
 cases h with
 | top=>exact absurd rfl ht
 | sc c v h =>
  have hc:V.cells (.sc c)=[c]:=by cases c<;>first|rfl|exact absurd rfl ht|exact absurd rfl (h.a2a _ _ _)
  rw [hc,h.cells]
  refine ⟨rfl,fun j x y a b=>?_⟩
  cases j with
  | zero=>simp at a b;subst a;subst b;exact h
  | succ j=>simp at a
 | agg cs vals hs h=>exact ⟨hs,h⟩
 | tup vs ws hs h=>exact absurd rfl (ht' vs)
structure OwnAt (S:Seat) (g:Gh) (w:World) (p:Bool) (es:Nat) (l:List (List C)) (b off cap:Nat):Prop where
 rel:p=false->RC S g (.sl .shared es l) (.slice (some ⟨b,off,none⟩) l.length cap)
 prv:p=true->off=0/\l≠[]/\l.length<=cap/\(∀ e∈l,e.length=es)/\(∀ e∈l,C.a0v e=true)/\∀ (j:Nat) c,l.flatten[j]?=some c->∃ v,w.cell? ⟨b,j,none⟩=some v/\RC S g c v
 blk:∃ cs elem,w.heap[b]?=some (.cells cs elem (0,0))/\off+cap*es<=cs.size
 spare:∀ o,(p=true\/off+l.length*es<=o)->g.M b o=none
theorem e7Z:∀ {l:List (List C)},(∀ e∈l,C.a0v e=true)->C.a0v l.flatten=true
 | [],_=>rfl
 | e::l,h=>by
  rw [List.flatten_cons,b0j]
  intro c hc
  rcases List.mem_append.1 hc with hc|hc
  ·exact b0j.1 (h e (by simp)) c hc
  ·exact b0j.1 (e7Z fun x hx=>h x (by simp [hx])) c hc
theorem OwnAt.keep {S:Seat} {g g':Gh} {w w':World} {p:Bool} {es:Nat} {l:List (List C)} {b off cap:Nat} (h:OwnAt S g w p es l b off cap)
 (hM:∀ b o v,g.M b o=some v->g'.M b o=some v) (hN:∀ b es,g.N b=some es->g'.N b=some es) (hb:w'.heap[b]?=w.heap[b]?)
 (hs:∀ o,g.M b o=none->g'.M b o=none):OwnAt S g' w' p es l b off cap :=
 ⟨fun e=>(h.rel e).a3I rfl hM hN,fun e=>let ⟨h1,h0,h2,h3,h4,h5⟩:=h.prv e;⟨h1,h0,h2,h3,h4,fun j c hj=>let ⟨v,hv,hr⟩:=h5 j c hj
  ⟨v,by simp only [World.cell?] at hv ⊢;rw [hb];exact hv,hr.a3I (a2d (e7Z h4) hj) hM hN⟩⟩,by rw [hb];exact h.blk,fun o ho=>hs o (h.spare o ho)⟩
inductive RO (S:Seat) (g:Gh) (w:World):C->Value->Prop
 | rc (c:C) (v:Value) (h:RC S g c v):RO S g w c v
 | own (es:Nat) (l:List (List C)) (b off cap:Nat) (h:OwnAt S g w false es l b off cap):RO S g w (.own false es l) (.slice (some ⟨b,off,none⟩) l.length cap)
inductive RT (S:Seat) (g:Gh) (w:World):V->Value->Prop
 | rv (v:V) (x:Value) (h:RV S g v x):RT S g w v x
 | own (p:Bool) (es:Nat) (l:List (List C)) (b off cap:Nat) (h:OwnAt S g w p es l b off cap):RT S g w (.sc (.own p es l)) (.slice (some ⟨b,off,none⟩) l.length cap)
 | none (es:Nat):RT S g w (.sc (.own true es [])) (.slice none 0 0)
theorem RO.a0r {S:Seat} {g:Gh} {w:World} {c:C} {v:Value} (h:RO S g w c v):RC S g (a0r c) v:=by
 cases h with
 | rc c v h=>rw [h.a6Y];exact h
 | own es l b off cap h=>exact h.rel rfl
theorem RT.a0r {S:Seat} {g:Gh} {w:World} {c:V} {v:Value} (h:RT S g w c v):RV S g c.a0r v:=by
 cases h with
 | rv c v h=>rw [h.a6Y];exact h
 | own p es l b off cap h =>
  cases p with
  | false=>exact .sc _ _ (h.rel rfl)
  | true=>exact .top _
 | none es=>exact .top _
end Go.Pm
namespace Go.Pm
def Op.a0A:Op->List Rand
 | .mv x=>[x]
 | .pick c a b=>[c,a,b]
 | .alloc _ _=>[]
 | .box _ x=>[x]
 | .build _ ps=>ps.map (·.2.2)
 | .bslice _ _ _ ps=>ps.map (·.2)
 | .bmsl _ _ _ _ ps=>ps.map (·.2)
 | .load _ x=>[x]
 | .loadT x=>[x]
 | .store _ x v=>[x,v]
 | .bin _ x y=>[x,y]
 | .eqf _ _ x y=>[x,y]
 | .isnil _ _ x=>[x]
 | .un _ x=>[x]
 | .conv _ x=>[x]
 | .mkf _ _ first cap=>first++cap
 | .mkmap _ _ _=>[]
 | .slice _ x lo hi mx=>x::(lo.toList++hi.toList++mx.toList)
 | .slArr _ _ x lo hi mx=>x::(lo.toList++hi.toList++mx.toList)
 | .slStr x lo hi=>x::(lo.toList++hi.toList)
 | .faddr _ x=>[x]
 | .field _ _ x=>[x]
 | .iaddr _ x i=>[x,i]
 | .iarr _ _ x i=>[x,i]
 | .index _ _ _ x i=>[x,i]
 | .istr x i=>[x,i]
 | .lookup _ _ _ m key=>[m,key]
 | .ment _ _ m key=>[m,key]
 | .estore m s v=>[m,s,v]
 | .mupd _ m key v=>[m,key,v]
 | .mkset _ _=>[]
 | .kset _ _=>[]
 | .slook _ m key=>[m,key]
 | .sadd _ m key=>[m,key]
 | .rng _ x=>[x]
 | .mkM _ _ _ x=>[x]
 | .ext x _=>[x]
 | .len _ x=>[x]
 | .lenArr _=>[]
 | .min x xs=>x::xs
 | .max x xs=>x::xs
 | .append _ x y=>[x,y]
 | .appendP _ x y=>[x,y]
 | .appendM _ _ x y=>[x,y]
 | .copy _ x y=>[x,y]
 | .clear _ _ x=>[x]
 | .nilchk x=>[x]
 | .call _ f args=>f::args
 | .late o=>o.a0A
def Rand.slot:Rand->List Nat
 | .t i=>[i]
 | .tk i=>[i]
 | .pk i=>[i]
 | _=>[]
def Op.uses (o:Op):List Nat:=o.a0A.flatMap Rand.slot
def Oper.uses (o:Oper):List Nat:=o.op.uses++(match o.guard with|some (g,_)=>[g]|none=>[])
def Oper.writes (o:Oper):List Nat:=o.dst.toList++o.op.takes
def Op.a2g:Op->Nat
 | .load _ _ | .lookup _ _ _ _ _ | .slook _ _ _=>1
 | .len k _=>if k=2 then 1 else 0
 | .loadT _ | .store _ _ _ | .ment _ _ _ _ | .estore _ _ _ | .mupd _ _ _ _ | .sadd _ _ _ | .copy _ _ _ | .clear _ _ _=>2
 | .alloc _ _ | .box _ _ | .bmsl _ _ _ _ _ | .mkmap _ _ _ | .appendM _ _ _ _ | .mkset _ _ | .kset _ _ | .rng _ _ | .mkM _ _ _ _=>3
 | .call p _ _=>if p then 0 else 2
 | .late _=>2
 | _=>0
def Op.place:Op->Nat
 | .alloc a _ | .box a _ | .bmsl a _ _ _ _ | .mkmap a _ _ | .appendM a _ _ _ | .mkset a _ | .kset a _ | .rng a _ | .mkM a _ _ _=>a
 | _=>0
def apart (a b:List Nat):Bool:=a.all fun x=>!b.contains x
def b0h (a b:Oper):Bool :=
 apart b.writes (a.uses++a.writes)&&apart a.writes b.uses &&
 (a.op.a2g == 0||b.op.a2g == 0||(a.op.a2g == 1&&b.op.a2g == 1)||(a.op.a2g == 3&&b.op.a2g == 3&&a.op.place != b.op.place)||a.conf.contains b.ix)
theorem apart_spec {a b:List Nat} (h:apart a b=true) {x:Nat} (hx:x∈a):x ∉ b:=by
 have:=List.all_eq_true.1 h x hx
 simpa using this
theorem a3Q {r r':Rand->V} {x:Option Rand} (h:∀ y∈x.toList,r y=r' y):x.map r=x.map r':=by
 cases x with
 | none=>rfl
 | some y=>simp [h y (by simp)]
theorem a9k {α:Type} {r r':Rand->V} {l:List α} {f:α->Rand} {β:Type} {k:α->V->β} (h:∀ y∈l.map f,r y=r' y):l.map (fun p=>k p (r (f p)))=l.map (fun p=>k p (r' (f p))) :=
 List.map_congr_left fun p hp=>by rw [h (f p) (List.mem_map.2 ⟨p,hp,rfl⟩)]
theorem b2U {base:Nat} {h:List Obj} {r r':Rand->V} {o:Op} (hr:∀ x∈o.a0A,r x=r' x):eff base h r o=eff base h r' o:=by
 cases o with
 | build z ps=>simp only [eff];rw [a9k (l:=ps) (f:=fun p=>p.2.2) (k:=fun p v=>(p.1,p.2.1,v)) hr]
 | bslice es n z ps=>simp only [eff];rw [a9k (l:=ps) (f:=fun p=>p.2) (k:=fun p v=>(p.1,v)) hr]
 | bmsl a es n z ps=>simp only [eff];rw [a9k (l:=ps) (f:=fun p=>p.2) (k:=fun p v=>(p.1,v)) hr]
 | mkf id sh first cap =>
  have h1:first.map r=first.map r':=List.map_congr_left fun p hp=>hr p (by simp [Op.a0A,hp])
  have h2:cap.map r=cap.map r':=List.map_congr_left fun p hp=>hr p (by simp [Op.a0A,hp])
  simp only [eff,h1,h2]
 | min x xs =>
  have h1:xs.map r=xs.map r':=List.map_congr_left fun p hp=>hr p (by simp [Op.a0A,hp])
  simp only [eff,h1,hr x (by simp [Op.a0A])]
 | max x xs =>
  have h1:xs.map r=xs.map r':=List.map_congr_left fun p hp=>hr p (by simp [Op.a0A,hp])
  simp only [eff,h1,hr x (by simp [Op.a0A])]
 | slice es x lo hi mx =>
  have h1:=a3Q (x:=lo) fun y hy=>hr y (by simp [Op.a0A] at hy ⊢;simp [hy])
  have h2:=a3Q (x:=hi) fun y hy=>hr y (by simp [Op.a0A] at hy ⊢;simp [hy])
  have h3:=a3Q (x:=mx) fun y hy=>hr y (by simp [Op.a0A] at hy ⊢;simp [hy])
  simp only [eff,h1,h2,h3,hr x (by simp [Op.a0A])]
 | slArr n es x lo hi mx =>
  have h1:=a3Q (x:=lo) fun y hy=>hr y (by simp [Op.a0A] at hy ⊢;simp [hy])
  have h2:=a3Q (x:=hi) fun y hy=>hr y (by simp [Op.a0A] at hy ⊢;simp [hy])
  have h3:=a3Q (x:=mx) fun y hy=>hr y (by simp [Op.a0A] at hy ⊢;simp [hy])
  simp only [eff,h1,h2,h3,hr x (by simp [Op.a0A])]
 | slStr x lo hi =>
  have h1:=a3Q (x:=lo) fun y hy=>hr y (by simp [Op.a0A] at hy ⊢;simp [hy])
  have h2:=a3Q (x:=hi) fun y hy=>hr y (by simp [Op.a0A] at hy ⊢;simp [hy])
  simp only [eff,h1,h2,hr x (by simp [Op.a0A])]
 | pick c a b=>simp only [eff,hr c (by simp [Op.a0A]),hr a (by simp [Op.a0A]),hr b (by simp [Op.a0A])]
 | estore m s v=>simp only [eff,hr m (by simp [Op.a0A]),hr s (by simp [Op.a0A]),hr v (by simp [Op.a0A])]
 | mupd ty m s v=>simp only [eff,hr m (by simp [Op.a0A]),hr s (by simp [Op.a0A]),hr v (by simp [Op.a0A])]
 | store n x v=>simp only [eff,hr x (by simp [Op.a0A]),hr v (by simp [Op.a0A])]
 | bin op x v=>simp only [eff,hr x (by simp [Op.a0A]),hr v (by simp [Op.a0A])]
 | eqf neg ty x v=>simp only [eff,hr x (by simp [Op.a0A]),hr v (by simp [Op.a0A])]
 | iaddr es x v=>simp only [eff,hr x (by simp [Op.a0A]),hr v (by simp [Op.a0A])]
 | iarr len es x v=>simp only [eff,hr x (by simp [Op.a0A]),hr v (by simp [Op.a0A])]
 | index len es n x v=>simp only [eff,hr x (by simp [Op.a0A]),hr v (by simp [Op.a0A])]
 | istr x v=>simp only [eff,hr x (by simp [Op.a0A]),hr v (by simp [Op.a0A])]
 | lookup ok ty z x v=>simp only [eff,hr x (by simp [Op.a0A]),hr v (by simp [Op.a0A])]
 | ment ty z x v=>simp only [eff,hr x (by simp [Op.a0A]),hr v (by simp [Op.a0A])]
 | append es x v=>simp only [eff,hr x (by simp [Op.a0A]),hr v (by simp [Op.a0A])]
 | appendP es x v=>simp only [eff,hr x (by simp [Op.a0A]),hr v (by simp [Op.a0A])]
 | appendM a es x v=>simp only [eff,hr x (by simp [Op.a0A]),hr v (by simp [Op.a0A])]
 | copy es x v=>simp only [eff,hr x (by simp [Op.a0A]),hr v (by simp [Op.a0A])]
 | clear es z x=>simp only [eff,hr x (by simp [Op.a0A])]
 | alloc a z=>rfl
 | mkmap a ka va=>rfl
 | mkset a n=>rfl
 | kset a n=>rfl
 | slook n x v=>simp only [eff,hr x (by simp [Op.a0A]),hr v (by simp [Op.a0A])]
 | sadd n x v=>simp only [eff,hr x (by simp [Op.a0A]),hr v (by simp [Op.a0A])]
 | rng a x=>simp only [eff,hr x (by simp [Op.a0A])]
 | mkM a es z x=>simp only [eff,hr x (by simp [Op.a0A])]
 | lenArr n=>rfl
 | call p f args=>rfl
 | late o=>rfl
 | mv x=>simp only [eff,hr x (by simp [Op.a0A])]
 | box a x=>simp only [eff,hr x (by simp [Op.a0A])]
 | load n x=>simp only [eff,hr x (by simp [Op.a0A])]
 | loadT x=>simp only [eff,hr x (by simp [Op.a0A])]
 | isnil kd neg x=>simp only [eff,hr x (by simp [Op.a0A])]
 | un op x=>simp only [eff,hr x (by simp [Op.a0A])]
 | conv k x=>simp only [eff,hr x (by simp [Op.a0A])]
 | faddr off x=>simp only [eff,hr x (by simp [Op.a0A])]
 | field off n x=>simp only [eff,hr x (by simp [Op.a0A])]
 | ext x i=>simp only [eff,hr x (by simp [Op.a0A])]
 | len k x=>simp only [eff,hr x (by simp [Op.a0A])]
 | nilchk x=>simp only [eff,hr x (by simp [Op.a0A])]
theorem a5K {K:a1n} {base:Nat} {h:List Obj} {r r':Rand->V} {o:Op} (hr:∀ x∈o.a0A,r x=r' x):perform K base h r o=perform K base h r' o:=by
 cases o with
 | call p f args =>
  have h1:args.map r=args.map r':=List.map_congr_left fun p hp=>hr p (by simp [Op.a0A,hp])
  simp only [perform,calls,h1,hr f (by simp [Op.a0A])]
 | late o=>simp only [perform];rw [b2U (o:=o) hr]
 | _=>simp only [perform];rw [b2U hr]
theorem b2T {base:Nat} {r r':Rand->V} {o:Op} (hr:∀ x∈o.a0A,r x=r' x):acc base r o=acc base r' o:=by
 cases o with
 | load n x=>simp only [acc,hr x (by simp [Op.a0A])]
 | loadT x=>simp only [acc,hr x (by simp [Op.a0A])]
 | store n x v=>simp only [acc,hr x (by simp [Op.a0A])]
 | lookup ok ty z m key=>simp only [acc,hr m (by simp [Op.a0A]),hr key (by simp [Op.a0A])]
 | ment ty z m key=>simp only [acc,hr m (by simp [Op.a0A]),hr key (by simp [Op.a0A])]
 | estore m s v=>simp only [acc,hr m (by simp [Op.a0A])]
 | mupd ty m key v=>simp only [acc,hr m (by simp [Op.a0A])]
 | slook n m key=>simp only [acc,hr m (by simp [Op.a0A])]
 | sadd n m key=>simp only [acc,hr m (by simp [Op.a0A])]
 | copy es x v=>simp only [acc,hr x (by simp [Op.a0A])]
 | clear es z x=>simp only [acc,hr x (by simp [Op.a0A])]
 | len k x=>simp only [acc,hr x (by simp [Op.a0A])]
 | _=>rfl
theorem a8g {base:Nat} {h h':List Obj} {r:Rand->V} {o:Op} (hh:∀ p∈(acc base r o).refs,h'[p]?=h[p]?):eff base h' r o=eff base h r o:=by
 have fr:∀ a,(base+a)∈(acc base r o).refs->a1z h' (base+a)=a1z h (base+a):=fun a ha=>by unfold a1z;rw [hh _ ha]
 cases o with
 | alloc a z=>simp only [eff,fr a (by simp [acc])]
 | box a x=>simp only [eff,fr a (by simp [acc])]
 | bmsl a es n z ps=>simp only [eff,fr a (by simp [acc])]
 | mkmap a ka va=>simp only [eff,fr a (by simp [acc])]
 | mkset a n=>simp only [eff,fr a (by simp [acc])]
 | kset a n=>simp only [eff,fr a (by simp [acc])]
 | rng a x=>simp only [eff,fr a (by simp [acc])]
 | mkM a es z x=>simp only [eff,fr a (by simp [acc])]
 | slook n m key =>
  have:setOf h' (r m)=setOf h (r m):=by
   unfold setOf
   split
   ·rfl
   ·rename_i p hp;rw [hh p (by simp [acc,hp,refsOf])]
   ·rfl
  simp only [eff,this]
 | sadd n m key =>
  simp only [eff]
  split
  ·rename_i p ks hp hk;rw [hh p (by simp [acc,hp,refsOf])]
  ·rfl
 | appendM a es x y=>simp only [eff,fr a (by simp [acc])]
 | copy es x y =>
  simp only [eff]
  split
  ·rename_i p off n cap es' l hp hl;rw [hh p (by simp [acc,hp,refsOf])]
  ·rfl
 | clear es z x =>
  simp only [eff]
  split
  ·rename_i p off n cap es' hp;rw [hh p (by simp [acc,hp,refsOf])]
  ·rfl
 | load n x =>
  simp only [eff]
  split
  ·rename_i p off hp;rw [hh p (by simp [acc,hp,refsOf])]
  ·rfl
  ·rfl
 | loadT x =>
  simp only [eff]
  split
  ·rename_i p off hp;rw [hh p (by simp [acc,hp,refsOf])]
  ·rfl
 | store n x v =>
  simp only [eff]
  split
  ·rename_i p off hp;rw [hh p (by simp [acc,hp,refsOf])]
  ·rfl
 | lookup ok ty z m key =>
  have:entries h' ok ty z (r key) (r m)=entries h ok ty z (r key) (r m):=by
   unfold entries
   split
   ·rename_i p hp;rw [hh p (by simp [acc,hp,refsOf])]
   ·rfl
   ·rfl
  simp only [eff,this]
 | ment ty z m key =>
  simp only [eff]
  split
  ·rename_i p hp;rw [hh p (by simp [acc,hp,refsOf])]
  ·rfl
 | estore m s v =>
  simp only [eff]
  split
  ·rename_i p q i hp hq;rw [hh p (by simp [acc,hp,refsOf])]
  ·rfl
 | mupd ty m key v =>
  simp only [eff]
  split
  ·rename_i p hp;rw [hh p (by simp [acc,hp,refsOf])]
  ·rfl
 | len k x =>
  by_cases hk:k=2
  ·subst hk
   simp only [eff]
   generalize hx:r x=rx at hh
   cases rx with
   | sc c =>
    cases c with
    | map p =>
     have:=hh p (by simp [acc,hx,refsOf])
     simp only [this]
    | _=>rfl
   | _=>rfl
  ·simp only [eff]
   split<;>first|rfl|omega
 | _=>rfl
theorem a4B {base:Nat} {h:List Obj} {r:Rand->V} {o:Op} {v:V} {ws:List (Nat × Obj)} (e:eff base h r o=some (v,ws)) :
 ws=[]\/((acc base r o).w=true/\∃ p ob,ws=[(p,ob)]/\p∈(acc base r o).refs):=by
 cases o with
 | alloc a z=>simp only [eff] at e;split at e<;>simp only [Option.some.injEq,Prod.mk.injEq,reduceCtorEq] at e;exact .inr ⟨rfl,_,_,e.2.symm,by simp [acc]⟩
 | box a x=>simp only [eff] at e;split at e<;>simp only [Option.some.injEq,Prod.mk.injEq,reduceCtorEq] at e;exact .inr ⟨rfl,_,_,e.2.symm,by simp [acc]⟩
 | bmsl a es n z ps =>
  simp only [eff] at e
  repeat' split at e
  all_goals first|(cases e;done)|(simp only [Option.some.injEq,Prod.mk.injEq] at e;exact .inr ⟨rfl,_,_,e.2.symm,by simp [acc]⟩)
 | mkM a es z x =>
  simp only [eff] at e
  repeat' split at e
  all_goals first|(cases e;done)|(simp only [Option.some.injEq,Prod.mk.injEq] at e;exact .inr ⟨rfl,_,_,e.2.symm,by simp [acc]⟩)
 | mkset a n=>simp only [eff] at e;split at e<;>simp only [Option.some.injEq,Prod.mk.injEq,reduceCtorEq] at e;exact .inr ⟨rfl,_,_,e.2.symm,by simp [acc]⟩
 | kset a n=>simp only [eff] at e;split at e<;>simp only [Option.some.injEq,Prod.mk.injEq,reduceCtorEq] at e;exact .inr ⟨rfl,_,_,e.2.symm,by simp [acc]⟩
 | slook n m key =>
  simp only [eff] at e
  repeat' split at e
  all_goals first|(cases e;done)|(simp only [Option.some.injEq,Prod.mk.injEq] at e;exact .inl e.2.symm)
 | copy es x y =>
  simp only [eff] at e
  split at e
  ·rename_i p off n cap es' l hp hl
   repeat' split at e
   all_goals first|(cases e;done)|(simp only [Option.some.injEq,Prod.mk.injEq] at e;exact .inr ⟨rfl,_,_,e.2.symm,by simp [acc,hp,refsOf]⟩)
  ·cases e
 | clear es z x =>
  simp only [eff] at e
  split at e
  ·rename_i p off n cap es' hp
   repeat' split at e
   all_goals first|(cases e;done)|(simp only [Option.some.injEq,Prod.mk.injEq] at e;exact .inr ⟨rfl,_,_,e.2.symm,by simp [acc,hp,refsOf]⟩)
  ·cases e
 | sadd n m key =>
  simp only [eff] at e
  split at e
  ·rename_i p ks hp hk
   repeat' split at e
   all_goals first|(cases e;done)|(simp only [Option.some.injEq,Prod.mk.injEq] at e;exact .inr ⟨rfl,_,_,e.2.symm,by simp [acc,hp,refsOf]⟩)
  ·cases e
 | rng a x =>
  simp only [eff] at e
  repeat' split at e
  all_goals first|(cases e;done)|(simp only [Option.some.injEq,Prod.mk.injEq] at e;exact .inr ⟨rfl,_,_,e.2.symm,by simp [acc]⟩)
 | mkmap a ka va=>simp only [eff] at e;split at e<;>simp only [Option.some.injEq,Prod.mk.injEq,reduceCtorEq] at e;exact .inr ⟨rfl,_,_,e.2.symm,by simp [acc]⟩
 | appendM a es x y =>
  simp only [eff] at e
  repeat' split at e
  all_goals first|(cases e;done)|(simp only [Option.some.injEq,Prod.mk.injEq] at e;exact .inr ⟨rfl,_,_,e.2.symm,by simp [acc]⟩)|(simp only [Option.some.injEq,Prod.mk.injEq] at e;exact .inl e.2.symm)
 | loadT x =>
  simp only [eff] at e
  split at e
  ·rename_i p off hp
   repeat' split at e
   all_goals first|(cases e;done)|(simp only [Option.some.injEq,Prod.mk.injEq] at e;exact .inr ⟨rfl,_,_,e.2.symm,by simp [acc,hp,refsOf]⟩)
  ·cases e
 | store n x v =>
  simp only [eff] at e
  split at e
  ·rename_i p off hp
   repeat' split at e
   all_goals first|(cases e;done)|(simp only [Option.some.injEq,Prod.mk.injEq] at e;exact .inr ⟨rfl,_,_,e.2.symm,by simp [acc,hp,refsOf]⟩)
  ·cases e
 | ment ty z m key =>
  simp only [eff] at e
  split at e
  ·rename_i p hp
   repeat' split at e
   all_goals first|(cases e;done)|(simp only [Option.some.injEq,Prod.mk.injEq] at e;exact .inr ⟨rfl,_,_,e.2.symm,by simp [acc,hp,refsOf]⟩)|(simp only [Option.some.injEq,Prod.mk.injEq] at e;exact .inl e.2.symm)
  ·cases e
 | estore m s v =>
  simp only [eff] at e
  split at e
  ·rename_i p q i hp hq
   repeat' split at e
   all_goals first|(cases e;done)|(simp only [Option.some.injEq,Prod.mk.injEq] at e;exact .inr ⟨rfl,_,_,e.2.symm,by simp [acc,hp,refsOf]⟩)
  ·cases e
 | mupd ty m key v =>
  simp only [eff] at e
  split at e
  ·rename_i p hp
   repeat' split at e
   all_goals first|(cases e;done)|(simp only [Option.some.injEq,Prod.mk.injEq] at e;exact .inr ⟨rfl,_,_,e.2.symm,by simp [acc,hp,refsOf]⟩)
  ·cases e
 | load n x =>
  left
  simp only [eff] at e
  repeat' split at e
  all_goals first|(cases e;done)|(simp only [Option.map_eq_some_iff,Prod.mk.injEq] at e;obtain ⟨_,_,_,e⟩:=e;exact e.symm)
 | lookup ok ty z m key =>
  left
  simp only [eff] at e
  repeat' split at e
  all_goals first|(cases e;done)|(simp only [Option.some.injEq,Prod.mk.injEq] at e;exact e.2.symm)|(simp only [Option.map_eq_some_iff,Prod.mk.injEq] at e;obtain ⟨_,_,_,e⟩:=e;exact e.symm)
 | mv x=>left;simp only [eff,Option.some.injEq,Prod.mk.injEq] at e;exact e.2.symm
 | lenArr n=>left;simp only [eff,Option.some.injEq,Prod.mk.injEq] at e;exact e.2.symm
 | call p f args=>simp [eff] at e
 | late o=>simp [eff] at e
 | _ =>
  left
  simp only [eff,one] at e
  repeat' split at e
  all_goals first|(cases e;done)|(simp only [Option.some.injEq,Prod.mk.injEq] at e;exact e.2.symm)|(simp only [Option.map_eq_some_iff,Prod.mk.injEq] at e;obtain ⟨_,_,_,e⟩:=e;exact e.symm)
end Go.Pm
namespace Go.Pm
structure Eqv (s s':St):Prop where
 h:s.h=s'.h
 t:∀ i,get s.t i=get s'.t i
theorem Eqv.refl (s:St):Eqv s s:=⟨rfl,fun _=>rfl⟩
theorem Eqv.symm {s s':St} (h:Eqv s s'):Eqv s' s:=⟨h.h.symm,fun i=>(h.t i).symm⟩
theorem Eqv.trans {a b c:St} (h:Eqv a b) (k:Eqv b c):Eqv a c:=⟨h.h.trans k.h,fun i=>(h.t i).trans (k.t i)⟩
theorem a9Y (dst:Option Nat) (v:V) (t:List (Nat × V)) (i:Nat):get (put1 dst v t) i=if dst=some i then v else get t i:=by
 cases dst with
 | none=>simp [put1]
 | some d=>simp only [put1,get,Option.some.injEq]
theorem c2z (v:V):v.a0r.a0r=v.a0r:=by
 cases v with
 | sc c =>
  cases c with
  | own p es l=>cases p<;>rfl
  | _=>rfl
 | agg=>rfl
 | tup=>rfl
theorem b2K (l:List Nat):∀ (t:List (Nat × V)) (j:Nat),get (drop l t) j=if j∈l then (get t j).a0r else get t j:=by
 unfold drop
 induction l with
 | nil=>intro t j;simp
 | cons i l ih =>
  intro t j
  simp only [List.foldl_cons]
  rw [ih]
  simp only [get,List.mem_cons]
  by_cases hj:j∈l
  ·by_cases hij:i=j
   ·subst hij;simp [hj,c2z]
   ·simp [hj,hij]
  ·by_cases hij:i=j
   ·subst hij;simp [hj]
   ·have:¬ (j=i):=fun e=>hij e.symm
    simp [hj,hij,this]
variable {Γ:Env} {K:a1n} {base:Nat}
theorem Eqv.rd {s s':St} (e:Eqv s s'):rd Γ s.t=rd Γ s'.t:=by
 funext x
 cases x with
 | t i=>simp only [Pm.rd,e.t]
 | tk i=>simp only [Pm.rd,e.t]
 | pk i=>simp only [Pm.rd,e.t]
 | _=>rfl
theorem Eqv.wanted {s s':St} (e:Eqv s s') (o:Oper):wanted o s.t=wanted o s'.t:=by
 unfold Pm.wanted
 split
 ·rfl
 ·rw [e.t]
theorem Eqv.step {s s' s1:St} (e:Eqv s s') {o:Oper} (h:step Γ K base o s=some s1):∃ s1',step Γ K base o s'=some s1'/\Eqv s1 s1':=by
 unfold Pm.step at h ⊢
 rw [← e.wanted o]
 split at h
 ·cases h
 ·simp only [Option.some.injEq] at h
  subst h
  exact ⟨_,rfl,e.h,fun i=>by simp only [a9Y,e.t]⟩
 ·rw [← e.rd, ← e.h]
  split at h
  ·cases h
  ·simp only [Option.some.injEq] at h
   subst h
   exact ⟨_,rfl,rfl,fun i=>by simp only [a9Y,b2K,e.t]⟩
theorem b4W {s s1:St} {o:Oper} (h:step Γ K base o s=some s1) {x:Nat} (hx:x ∉ o.writes):get s1.t x=get s.t x:=by
 unfold Pm.step at h
 have h1:o.dst≠some x:=fun e=>hx (by simp [Oper.writes,e])
 have h2:x ∉ o.op.takes:=fun e=>hx (by simp [Oper.writes,e])
 split at h
 ·cases h
 ·simp only [Option.some.injEq] at h
  subst h
  simp only [a9Y,if_neg h1]
 ·split at h
  ·cases h
  ·simp only [Option.some.injEq] at h
   subst h
   simp only [a9Y,b2K,if_neg h1,if_neg h2]
theorem c1j {t t':List (Nat × V)} {x:Rand} (h:∀ i∈x.slot,get t i=get t' i):rd Γ t x=rd Γ t' x:=by
 cases x with
 | t i=>simp only [rd,h i (by simp [Rand.slot])]
 | tk i=>simp only [rd,h i (by simp [Rand.slot])]
 | pk i=>simp only [rd,h i (by simp [Rand.slot])]
 | _=>rfl
theorem b0U {t t':List (Nat × V)} {o:Oper} (h:∀ i∈o.uses,get t i=get t' i):wanted o t=wanted o t':=by
 unfold wanted
 split
 ·rfl
 ·rename_i g w hg
  rw [h g (by simp [Oper.uses,hg])]
theorem a7x {t t':List (Nat × V)} {o:Oper} (h:∀ i∈o.uses,get t i=get t' i):∀ x∈o.op.a0A,rd Γ t x=rd Γ t' x :=
 fun x hx=>c1j fun i hi=>h i (by simp only [Oper.uses,Op.uses,List.mem_append,List.mem_flatMap];exact .inl ⟨x,hx,hi⟩)
/-! ### Objects -/
def Op.plain:Op->Bool
 | .call _ _ _ | .late _=>false
 | _=>true
theorem b7z {h h':List Obj} {r:Rand->V} {o:Op} {v:V} (h0:o.a2g=0) (e:perform K base h r o=some (v,h')):h'=h/\∀ k,perform K base k r o=some (v,k):=by
 have gen:o.plain=true->(acc base r o).refs=[]->(acc base r o).w=false->h'=h/\∀ k,perform K base k r o=some (v,k):=by
  intro hc hr hw
  have hp:∀ k,perform K base k r o=(eff base k r o).map fun p=>(p.1,a0I k p.2):=fun k=>by cases o<;>first|rfl|(simp [Op.plain] at hc;done)
  rw [hp,Option.map_eq_some_iff] at e
  obtain ⟨⟨v',ws⟩,he,e⟩:=e
  simp only [Prod.mk.injEq] at e
  obtain ⟨rfl,rfl⟩:=e
  rcases a4B he with rfl|⟨h1,_⟩
  ·refine ⟨rfl,fun k=>?_⟩
   rw [hp,a8g (h:=h) (by rw [hr];simp),he]
   rfl
  ·rw [hw] at h1;cases h1
 cases o with
 | call p f args =>
  cases p with
  | false=>simp [Op.a2g] at h0
  | true =>
   simp only [perform,calls] at e ⊢
   split at e
   ·cases e
   ·rename_i fk vs ht
    simp only [if_true] at e ⊢
    split at e
    ·rename_i hall
     simp only [Option.bind_eq_some_iff] at e
     obtain ⟨q,⟨⟨v0,h0⟩,hq,e⟩,e2⟩:=e
     unfold alone at e
     split at e
     ·rename_i he
      dsimp only at he
      subst he
      simp only [Option.some.injEq] at e
      subst e
      unfold shut at e2
      split at e2
      ·cases e2
      ·rename_i hs
       simp only [Option.some.injEq,Prod.mk.injEq] at e2
       obtain ⟨rfl,rfl⟩:=e2
       refine ⟨rfl,fun k=>?_⟩
       rw [if_pos hall,hq]
       simp only [Option.bind_some,alone,shut]
       rw [if_neg hs]
     ·cases e
    ·cases e
 | len k x =>
  refine gen rfl ?_ ?_
  ·by_cases hk:k=2
   ·simp [Op.a2g,hk] at h0
   ·simp [acc,hk]
  ·by_cases hk:k=2
   ·simp [Op.a2g,hk] at h0
   ·simp [acc,hk]
 | _=>first|exact gen rfl rfl rfl|(simp [Op.a2g] at h0;done)
theorem a1y {h:List Obj} {r:Rand->V} {o:Op} (hc:o.plain=true):perform K base h r o=(eff base h r o).map fun p=>(p.1,a0I h p.2):=by
 cases o<;>first|rfl|(simp [Op.plain] at hc;done)
theorem a8C {h:List Obj} {ws:List (Nat × Obj)} {p:Nat} (hp:∀ q∈ws,q.1≠p):(a0I h ws)[p]?=h[p]?:=by
 unfold a0I
 induction ws generalizing h with
 | nil=>rfl
 | cons q ws ih =>
  rw [List.foldl_cons,ih (fun x hx=>hp x (by simp [hx])),List.getElem?_set_ne (hp q (by simp))]
theorem b8i {h:List Obj} {p q:Nat} {a b:Obj} (hpq:p≠q):(h.set p a).set q b=(h.set q b).set p a:=(List.set_comm a b hpq)
theorem a9h {h h1 h2:List Obj} {rj ri:Rand->V} {oj oi:Op} {vj vi:V} (cj:oj.plain=true) (ci:oi.plain=true)
 (hj:perform K base h rj oj=some (vj,h1)) (hi:perform K base h1 ri oi=some (vi,h2))
 (hd:(∀ p∈(acc base rj oj).refs,p ∉ (acc base ri oi).refs)\/((acc base rj oj).w=false/\(acc base ri oi).w=false)) :
 ∃ h1',perform K base h ri oi=some (vi,h1')/\perform K base h1' rj oj=some (vj,h2):=by
 rw [a1y cj,Option.map_eq_some_iff] at hj
 rw [a1y ci,Option.map_eq_some_iff] at hi
 obtain ⟨⟨vj',wj⟩,ej,e1⟩:=hj
 obtain ⟨⟨vi',wi⟩,ei,e2⟩:=hi
 simp only [Prod.mk.injEq] at e1 e2
 obtain ⟨rfl,rfl⟩:=e1
 obtain ⟨rfl,rfl⟩:=e2
 rcases hd with hd|⟨h1,h2⟩
 ·have wsj:=a4B ej
  have agree1:∀ p∈(acc base ri oi).refs,(a0I h wj)[p]?=h[p]?:=fun p hp=>a8C fun q hq=>by
   rcases wsj with rfl|⟨_,p',ob,rfl,hp'⟩
   ·simp at hq
   ·simp at hq;subst hq;rintro rfl;exact hd _ hp' hp
  have ei':eff base h ri oi=some (vi',wi):=by rw [← a8g agree1];exact ei
  have wsi:=a4B ei'
  have agree2:∀ p∈(acc base rj oj).refs,(a0I h wi)[p]?=h[p]?:=fun p hp=>a8C fun q hq=>by
   rcases wsi with rfl|⟨_,p',ob,rfl,hp'⟩
   ·simp at hq
   ·simp at hq;subst hq;rintro rfl;exact hd _ hp hp'
  refine ⟨a0I h wi,by rw [a1y ci,ei'];rfl,?_⟩
  rw [a1y cj,a8g agree2,ej]
  simp only [Option.map_some,Option.some.injEq,Prod.mk.injEq,true_and]
  rcases wsj with rfl|⟨_,p',ob,rfl,hp'⟩
  ·rfl
  ·rcases wsi with rfl|⟨_,p2,ob2,rfl,hp2⟩
   ·rfl
   ·simp only [a0I,List.foldl_cons,List.foldl_nil]
    exact b8i (by rintro rfl;exact hd _ hp' hp2)
 ·have wj0:wj=[]:=by rcases a4B ej with h|⟨h,_⟩;exact h;rw [h1] at h;cases h
  subst wj0
  have ei':eff base h ri oi=some (vi',wi):=ei
  have wi0:wi=[]:=by rcases a4B ei' with h|⟨h,_⟩;exact h;rw [h2] at h;cases h
  subst wi0
  exact ⟨h,by rw [a1y ci,ei'];rfl,by rw [a1y cj,ej];rfl⟩
theorem b0e {h:List Obj} {r:Rand->V} {ty':KT} {z':V} {m' key':Rand} {v':V} {ws':List (Nat × Obj)} (e:eff base h r (.ment ty' z' m' key')=some (v',ws')) {ty:KT} {z key m:V}
 (hk:(a0c ty.tags key.cells (r key').cells).isSome=true) (hz:a0b z.cells z'.cells=some true):entries (a0I h ws') false ty z key m=entries h false ty z key m:=by
 simp only [eff] at e
 split at e
 ·rename_i p hp
  split at e
  ·rename_i ka va l hobj
   split at e
   ·cases e
   ·split at e
    ·simp only [Option.some.injEq,Prod.mk.injEq] at e
     obtain ⟨_,rfl⟩:=e
     rfl
    ·split at e
     ·simp only [Option.some.injEq,Prod.mk.injEq] at e
      obtain ⟨_,rfl⟩:=e
      have hlt:p<h.length:=(List.getElem?_eq_some_iff.1 hobj).1
      unfold entries
      split
      ·rename_i p'
       by_cases hpp:p'=p
       ·subst hpp
        have:(a0I h [(p',.map ka va l (some ((r key').cells,z'.cells)))])[p']?=some (.map ka va l (some ((r key').cells,z'.cells))):=by simp [a0I,hlt]
        rw [this,hobj]
        simp only [Bool.false_eq_true,if_false]
        split
        ·rfl
        ·rw [if_pos hz]
        ·rename_i hn;rw [hn] at hk;cases hk
       ·have:(a0I h [(p,.map ka va l (some ((r key').cells,z'.cells)))])[p']?=h[p']?:=a8C (by simp;exact fun e=>hpp e.symm)
        rw [this]
      ·rfl
      ·rfl
     ·cases e
    ·cases e
  ·cases e
 ·cases e
theorem c0h {r:Rand->V} {o:Op} (h:(acc base r o).kind=1):∃ ty z m key,o=.lookup false ty z m key:=by
 cases o with
 | lookup ok ty z m key =>
  cases ok with
  | false=>exact ⟨ty,z,m,key,rfl⟩
  | true=>simp [acc] at h
 | len k x=>by_cases hk:k=2<;>simp [acc,hk] at h
 | call p f as=>cases p<;>simp [acc] at h
 | _=>simp [acc] at h
theorem kind2 {r:Rand->V} {o:Op} (h:(acc base r o).kind=2):∃ ty z m key,o=.ment ty z m key:=by
 cases o with
 | ment ty z m key=>exact ⟨ty,z,m,key,rfl⟩
 | lookup ok ty z m key=>cases ok<;>simp [acc] at h
 | len k x=>by_cases hk:k=2<;>simp [acc,hk] at h
 | call p f as=>cases p<;>simp [acc] at h
 | _=>simp [acc] at h
theorem c0i {r:Rand->V} {o:Op} (h:(acc base r o).kind=3):∃ x,o=.loadT x/\(acc base r o).ty=a0h (r x):=by
 cases o with
 | loadT x=>exact ⟨x,rfl,rfl⟩
 | lookup ok ty z m key=>cases ok<;>simp [acc] at h
 | len k x=>by_cases hk:k=2<;>simp [acc,hk] at h
 | call p f as=>cases p<;>simp [acc] at h
 | _=>simp [acc] at h
theorem a9B {h h':List Obj} {r:Rand->V} {x:Rand} {v:V} (e:perform K base h r (.loadT x)=some (v,h')) :
 ∃ p off cs c,r x=.sc (.ptr p off)/\h[p]?=some (.var cs)/\cs[off]?=some c/\v=.sc c/\h'=h.set p (.var (cs.set off (a0r c))):=by
 rw [a1y rfl,Option.map_eq_some_iff] at e
 obtain ⟨⟨v',ws⟩,he,e⟩:=e
 simp only [Prod.mk.injEq] at e
 obtain ⟨rfl,rfl⟩:=e
 simp only [eff] at he
 cases hx:r x with
 | sc c =>
  cases c with
  | ptr p off =>
   rw [hx] at he
   simp only at he
   cases hp:h[p]? with
   | none=>rw [hp] at he;cases he
   | some o =>
    cases o with
    | var cs =>
     rw [hp] at he
     simp only at he
     cases hc:cs[off]? with
     | none=>rw [hc] at he;cases he
     | some c =>
      rw [hc] at he
      simp only [Option.some.injEq,Prod.mk.injEq] at he
      obtain ⟨rfl,rfl⟩:=he
      exact ⟨p,off,cs,c,rfl,hp,hc,rfl,rfl⟩
    | _=>rw [hp] at he;cases he
  | _=>rw [hx] at he;cases he
 | _=>rw [hx] at he;cases he
theorem a9l {h:List Obj} {r:Rand->V} {x:Rand} {p off:Nat} {cs:List C} {c:C} (hx:r x=.sc (.ptr p off)) (hp:h[p]?=some (.var cs)) (hc:cs[off]?=some c) :
 perform K base h r (.loadT x)=some (.sc c,h.set p (.var (cs.set off (a0r c)))):=by
 rw [a1y rfl]
 simp only [eff,hx,hp,hc]
 rfl
theorem b1C {h h':List Obj} {r:Rand->V} {ty:KT} {z:V} {m key:Rand} (e:entries h' false ty z (r key) (r m)=entries h false ty z (r key) (r m)) :
 eff base h' r (.lookup false ty z m key)=eff base h r (.lookup false ty z m key):=by simp only [eff,e]
theorem a8L {h h':List Obj} {r:Rand->V} {ty:KT} {z:V} {m key:Rand} {v:V} (e:perform K base h r (.lookup false ty z m key)=some (v,h')) :
 h'=h/\eff base h r (.lookup false ty z m key)=some (v,[]):=by
 rw [a1y rfl,Option.map_eq_some_iff] at e
 obtain ⟨⟨v',ws⟩,he,e⟩:=e
 simp only [Prod.mk.injEq] at e
 obtain ⟨rfl,rfl⟩:=e
 rcases a4B he with rfl|⟨h1,_⟩
 ·exact ⟨rfl,he⟩
 ·simp [acc] at h1
theorem a7N {r:Rand->V} {o:Op} (h:(acc base r o).all=false) (hw:o.a2g≠0):o.plain=true:=by
 cases o with
 | call p f as=>cases p<;>simp [acc,Op.a2g] at h hw
 | late o=>simp [acc] at h
 | _=>rfl
theorem b7v {h h1 h2:List Obj} {rj ri:Rand->V} {oj oi:Op} {vj vi:V} (nj:oj.a2g≠0) (ni:oi.a2g≠0)
 (hj:perform K base h rj oj=some (vj,h1)) (hi:perform K base h1 ri oi=some (vi,h2)) (hf:Acc.free (acc base rj oj) (acc base ri oi)=true) :
 ∃ h1',perform K base h ri oi=some (vi,h1')/\perform K base h1' rj oj=some (vj,h2):=by
 have callw:∀ {r:Rand->V} {o:Op},o.a2g≠0->(acc base r o).w=false->o.plain=true:=by
  intro r o hn hw
  cases o with
  | call p f as=>cases p<;>simp [acc,Op.a2g] at hw hn
  | late o=>simp [acc] at hw
  | _=>rfl
 have empty:∀ {r:Rand->V} {o:Op},o.a2g≠0->(acc base r o).all=false->(acc base r o).refs=[]->(acc base r o).w=false->∀ {h h' v},perform K base h r o=some (v,h')->h'=h/\∀ k,perform K base k r o=some (v,k):=by
  intro r o hn hall hr hw h h' v e
  have hc:=a7N hall hn
  rw [a1y hc,Option.map_eq_some_iff] at e
  obtain ⟨⟨v',ws⟩,he,e⟩:=e
  simp only [Prod.mk.injEq] at e
  obtain ⟨rfl,rfl⟩:=e
  rcases a4B he with rfl|⟨h1,_⟩
  ·refine ⟨rfl,fun k=>?_⟩
   rw [a1y hc,a8g (h:=h) (by rw [hr];simp),he]
   rfl
  ·rw [hw] at h1;cases h1
 simp only [Acc.free,Bool.or_eq_true,Bool.and_eq_true,Bool.not_eq_true',beq_iff_eq,List.all_eq_true,decide_eq_true_eq,List.isEmpty_iff] at hf
 rcases hf with (((((hf|hf)|hf)|hf)|hf)|hf)|hf
 ·exact a9h (callw nj hf.1) (callw ni hf.2) hj hi (.inr hf)
 ·obtain ⟨⟨⟨⟨k1,k2⟩,k3⟩,k4⟩,k5⟩:=hf
  obtain ⟨ty,z,m,key,rfl⟩:=c0h k1
  obtain ⟨ty',z',m',key',rfl⟩:=kind2 k2
  obtain ⟨rfl,ej⟩:=a8L hj
  rw [a1y rfl,Option.map_eq_some_iff] at hi
  obtain ⟨⟨vi',wi⟩,ei,e⟩:=hi
  simp only [Prod.mk.injEq] at e
  obtain ⟨rfl,rfl⟩:=e
  refine ⟨a0I h1 wi,by rw [a1y rfl,ei];rfl,?_⟩
  rw [a1y rfl,b1C (b0e ei k4 k5),ej]
  rfl
 ·obtain ⟨⟨⟨⟨k1,k2⟩,k3⟩,k4⟩,k5⟩:=hf
  obtain ⟨ty',z',m',key',rfl⟩:=kind2 k1
  obtain ⟨ty,z,m,key,rfl⟩:=c0h k2
  have k3':ty'.tags=ty.tags:=k3
  obtain ⟨rfl,ei⟩:=a8L hi
  rw [a1y rfl,Option.map_eq_some_iff] at hj
  obtain ⟨⟨vj',wj⟩,ej,e⟩:=hj
  simp only [Prod.mk.injEq] at e
  obtain ⟨rfl,rfl⟩:=e
  have k4':(a0c ty.tags (ri key).cells (rj key').cells).isSome=true:=by rw [← k3'];exact k4
  have ei':eff base h ri (.lookup false ty z m key)=some (vi,[]):=by rw [← b1C (b0e ej k4' k5)];exact ei
  exact ⟨h,by rw [a1y rfl,ei'];rfl,by rw [a1y rfl,ej];rfl⟩
 ·obtain ⟨⟨k1,k2⟩,k3⟩:=hf
  obtain ⟨x,rfl,t1⟩:=c0i k1
  obtain ⟨y,rfl,t2⟩:=c0i k2
  rw [t1,t2] at k3
  obtain ⟨p,off,cs,c,hx,hp,hc,rfl,rfl⟩:=a9B hj
  obtain ⟨q,off',cs',c',hy,hq,hc',rfl,rfl⟩:=a9B hi
  rw [hx,hy] at k3
  have hoff:off≠off':=fun e=>k3 (by simp [a0h,e])
  by_cases hpq:p=q
  ·subst hpq
   have hlt:p<h.length:=(List.getElem?_eq_some_iff.1 hp).1
   rw [List.getElem?_set_self hlt] at hq
   simp only [Option.some.injEq,Obj.var.injEq] at hq
   subst hq
   rw [List.getElem?_set_ne hoff] at hc'
   refine ⟨_,a9l hy hp hc',?_⟩
   rw [a9l (cs:=cs.set off' (a0r c')) hx (List.getElem?_set_self hlt) (by rw [List.getElem?_set_ne (fun e=>hoff e.symm)];exact hc)]
   rw [List.set_set,List.set_set,List.set_comm _ _ hoff]
  ·rw [List.getElem?_set_ne hpq] at hq
   refine ⟨_,a9l hy hq hc',?_⟩
   rw [a9l hx (by rw [List.getElem?_set_ne (fun e=>hpq e.symm)];exact hp) hc]
   rw [List.set_comm _ _ hpq]
 ·obtain ⟨⟨k1,k2⟩,k3⟩:=hf
  exact a9h (a7N k1 nj) (a7N k2 ni) hj hi (.inl fun p hp hq=>k3 p hp p hq rfl)
 ·obtain ⟨⟨k1,k2⟩,k3⟩:=hf
  obtain ⟨rfl,hk⟩:=empty nj k1 k2 k3 hj
  exact ⟨h2,hi,hk h2⟩
 ·obtain ⟨⟨k1,k2⟩,k3⟩:=hf
  obtain ⟨rfl,hk⟩:=empty ni k1 k2 k3 hi
  exact ⟨h,hk h,hj⟩
theorem b3r {r:Rand->V} {o:Op} (h:o.a2g=3):(acc base r o).refs=[base+o.place]/\(acc base r o).all=false:=by
 cases o with
 | len k x=>by_cases hk:k=2<;>simp [Op.a2g,hk] at h
 | call p f as=>cases p<;>simp [Op.a2g] at h
 | _=>first|exact ⟨rfl,rfl⟩|(simp [Op.a2g] at h;done)
theorem a9o {r:Rand->V} {o:Op} (h:o.a2g=1):(acc base r o).w=false/\o.plain=true:=by
 cases o with
 | len k x=>by_cases hk:k=2<;>simp [Op.a2g,acc,hk,Op.plain] at h ⊢
 | call p f as=>cases p<;>simp [Op.a2g] at h
 | _=>first|exact ⟨rfl,rfl⟩|(simp [Op.a2g] at h;done)
theorem b8k {oj oi:Oper} {s s1 s2:St} (hp:b0h oi oj=true) (hj:step Γ K base oj s=some s1) (hi:step Γ K base oi s1=some s2)
 (hfree:oi.conf.contains oj.ix=true->wanted oj s.t=some true->wanted oi s1.t=some true->Acc.free (acc base (rd Γ s.t) oj.op) (acc base (rd Γ s1.t) oi.op)=true) :
 ∃ s1' s2',step Γ K base oi s=some s1'/\step Γ K base oj s1'=some s2'/\Eqv s2 s2'/\wanted oi s.t=wanted oi s1.t/\acc base (rd Γ s.t) oi.op=acc base (rd Γ s1.t) oi.op ∧
  wanted oj s1'.t=wanted oj s.t/\acc base (rd Γ s1'.t) oj.op=acc base (rd Γ s.t) oj.op:=by
 simp only [b0h,Bool.and_eq_true] at hp
 obtain ⟨⟨p1,p2⟩,p3⟩:=hp
 have ui:∀ x∈oi.uses,get s1.t x=get s.t x:=fun x hx=>b4W hj fun h=>apart_spec p1 h (by simp [hx])
 have wi:wanted oi s.t=wanted oi s1.t:=(b0U ui).symm
 have ri:∀ x∈oi.op.a0A,rd Γ s.t x=rd Γ s1.t x:=fun x hx=>(a7x ui x hx).symm
 have ai:acc base (rd Γ s.t) oi.op=acc base (rd Γ s1.t) oi.op:=b2T ri
 -- the later one's step from the first state
 have mk:∀ {s1':St},step Γ K base oi s=some s1'->(∀ x∈oj.uses,get s1'.t x=get s.t x)/\wanted oj s1'.t=wanted oj s.t/\acc base (rd Γ s1'.t) oj.op=acc base (rd Γ s.t) oj.op:=fun h1=>by
  have uj:∀ x∈oj.uses,_:=fun x hx=>b4W h1 fun h=>apart_spec p2 h hx
  exact ⟨uj,b0U uj,b2T (a7x uj)⟩
 have slots:∀ {dj di:Option Nat} {vj vi:V} {tj ti:List Nat},dj=oj.dst->di=oi.dst->(∀ x∈tj,x∈oj.op.takes)->(∀ x∈ti,x∈oi.op.takes)->∀ x,
  get (put1 di vi (drop ti (put1 dj vj (drop tj s.t)))) x=get (put1 dj vj (drop tj (put1 di vi (drop ti s.t)))) x:=by
  intro dj di vj vi tj ti e1 e2 h1 h2 x
  simp only [a9Y,b2K]
  have n1:∀ y,dj=some y->di≠some y/\y ∉ ti:=fun y hy=>by
   have hw:y∈oj.writes:=by simp [Oper.writes, ← e1,hy]
   have:=apart_spec p1 hw
   refine ⟨fun h=>this ?_,fun h=>this ?_⟩
   ·simp [Oper.writes, ← e2,h]
   ·simp [Oper.writes,h2 y h]
  have n2:∀ y,y∈tj->di≠some y/\y ∉ ti:=fun y hy=>by
   have hw:y∈oj.writes:=by simp [Oper.writes,h1 y hy]
   have:=apart_spec p1 hw
   refine ⟨fun h=>this ?_,fun h=>this ?_⟩
   ·simp [Oper.writes, ← e2,h]
   ·simp [Oper.writes,h2 y h]
  by_cases c1:dj=some x
  ·obtain ⟨c2,c3⟩:=n1 x c1
   simp [c1,c2,c3]
  ·by_cases c2:di=some x
   ·have c4:x ∉ tj:=fun h=>(n2 x h).1 c2
    simp [c1,c2,c4]
   ·by_cases c3:x∈tj
    ·obtain ⟨_,c5⟩:=n2 x c3
     simp [c1,c2,c3,c5]
    ·simp [c1,c2,c3]
 unfold step at hj hi ⊢
 rw [wi]
 split at hj
 ·cases hj
 ·rename_i wj
  simp only [Option.some.injEq] at hj
  subst hj
  split at hi
  ·cases hi
  ·rename_i hw
   simp only [Option.some.injEq] at hi
   subst hi
   have h1:step Γ K base oi s=some { s with t:=put1 oi.dst (.tup []) s.t }:=by unfold step;rw [wi,hw]
   obtain ⟨_,m2,m3⟩:=mk h1
   refine ⟨_,{ s with t:=put1 oj.dst (.tup []) (put1 oi.dst (.tup []) s.t) },rfl,?_,⟨rfl,fun x=>?_⟩,rfl,ai,m2,m3⟩
   ·simp only [m2,wj]
   ·exact slots (tj:=[]) (ti:=[]) rfl rfl (by simp) (by simp) x
  ·rename_i hw
   split at hi
   ·cases hi
   ·rename_i vi h2 hpi
    simp only [Option.some.injEq] at hi
    subst hi
    have hpi':perform K base s.h (rd Γ s.t) oi.op=some (vi,h2):=by rw [a5K ri];exact hpi
    have h1:step Γ K base oi s=some { t:=put1 oi.dst vi (drop oi.op.takes s.t),h:=h2 }:=by unfold step;rw [wi,hw];simp only [hpi']
    obtain ⟨_,m2,m3⟩:=mk h1
    simp only [hpi']
    refine ⟨_,{ t:=put1 oj.dst (.tup []) (put1 oi.dst vi (drop oi.op.takes s.t)),h:=h2 },rfl,?_,⟨rfl,fun x=>?_⟩,trivial,ai,m2,m3⟩
    ·simp only [m2,wj]
    ·exact slots (tj:=[]) (ti:=oi.op.takes) rfl rfl (by simp) (fun _ h=>h) x
 ·rename_i wj
  split at hj
  ·cases hj
  ·rename_i vj h1 hpj
   simp only [Option.some.injEq] at hj
   subst hj
   split at hi
   ·cases hi
   ·rename_i hw
    simp only [Option.some.injEq] at hi
    subst hi
    have h1':step Γ K base oi s=some { s with t:=put1 oi.dst (.tup []) s.t }:=by unfold step;rw [wi,hw]
    obtain ⟨m1,m2,m3⟩:=mk h1'
    have hpj':perform K base s.h (rd Γ (put1 oi.dst (.tup []) s.t)) oj.op=some (vj,h1):=by rw [a5K (a7x m1)];exact hpj
    refine ⟨_,{ t:=put1 oj.dst vj (drop oj.op.takes (put1 oi.dst (.tup []) s.t)),h:=h1 },rfl,?_,⟨rfl,fun x=>?_⟩,rfl,ai,m2,m3⟩
    ·simp only [m2,wj,hpj']
    ·exact slots (tj:=oj.op.takes) (ti:=[]) rfl rfl (fun _ h=>h) (by simp) x
   ·rename_i hw
    split at hi
    ·cases hi
    ·rename_i vi h2 hpi
     simp only [Option.some.injEq] at hi
     subst hi
     have hpi0:perform K base h1 (rd Γ s.t) oi.op=some (vi,h2):=by rw [a5K ri];exact hpi
     have hsw:∃ h1',perform K base s.h (rd Γ s.t) oi.op=some (vi,h1')/\perform K base h1' (rd Γ s.t) oj.op=some (vj,h2):=by
      by_cases z1:oj.op.a2g=0
      ·obtain ⟨rfl,hk⟩:=b7z z1 hpj
       exact ⟨h2,hpi0,hk h2⟩
      ·by_cases z2:oi.op.a2g=0
       ·obtain ⟨rfl,hk⟩:=b7z z2 hpi0
        exact ⟨s.h,hk s.h,hpj⟩
       ·simp only [Bool.or_eq_true,Bool.and_eq_true,beq_iff_eq,z1,z2,false_or,bne_iff_ne,ne_eq] at p3
        rcases p3 with (⟨q1,q2⟩|⟨⟨q1,q2⟩,q3⟩)|q
        ·exact a9h (a9o (base:=base) (r:=rd Γ s.t) q2).2 (a9o (base:=base) (r:=rd Γ s.t) q1).2 hpj hpi0 (.inr ⟨(a9o q2).1,(a9o q1).1⟩)
        ·obtain ⟨r1,r2⟩:=b3r (base:=base) (r:=rd Γ s.t) q1
         obtain ⟨r3,r4⟩:=b3r (base:=base) (r:=rd Γ s.t) q2
         exact a9h (a7N r4 z1) (a7N r2 z2) hpj hpi0 (.inl (by rw [r1,r3];simp;omega))
        ·have:=hfree q wj hw
         rw [← ai] at this
         exact b7v z1 z2 hpj hpi0 this
     obtain ⟨h1',e1,e2⟩:=hsw
     have h1'':step Γ K base oi s=some { t:=put1 oi.dst vi (drop oi.op.takes s.t),h:=h1' }:=by unfold step;rw [wi,hw];simp only [e1]
     obtain ⟨m1,m2,m3⟩:=mk h1''
     have e2':perform K base h1' (rd Γ (put1 oi.dst vi (drop oi.op.takes s.t))) oj.op=some (vj,h2):=by rw [a5K (a7x m1)];exact e2
     simp only [e1]
     refine ⟨_,{ t:=put1 oj.dst vj (drop oj.op.takes (put1 oi.dst vi (drop oi.op.takes s.t))),h:=h2 },rfl,?_,⟨rfl,fun x=>?_⟩,trivial,ai,m2,m3⟩
     ·simp only [m2,wj,e2']
     ·exact slots (tj:=oj.op.takes) (ti:=oi.op.takes) rfl rfl (fun _ h=>h) (fun _ h=>h) x
end Go.Pm
namespace Go.Pm
variable {Γ:Env} {K:a1n} {base:Nat}
def RunT (Γ:Env) (K:a1n) (base:Nat) (tr:List (Nat × Acc)):List Oper->St->St->Prop
 | [],s,e=>Eqv s e
 | o::os,s,e=>∃ s1,step Γ K base o s=some s1/\(wanted o s.t=some true->(o.ix,acc base (rd Γ s.t) o.op)∈tr)/\RunT Γ K base tr os s1 e
theorem RunT.eqv {tr:List (Nat × Acc)}:∀ {os:List Oper} {s s' e:St},RunT Γ K base tr os s e->Eqv s s'->RunT Γ K base tr os s' e
 | [],_,_,_,h,k=>k.symm.trans h
 | o::os,s,s',e,⟨s1,h1,h2,h3⟩,k=>by
  obtain ⟨s1',h1',k1⟩:=k.step h1
  refine ⟨s1',h1',fun hw=>?_,h3.eqv k1⟩
  rw [← k.wanted o] at hw
  rw [← k.rd]
  exact h2 hw
def Pairs (tr:List (Nat × Acc)) (oj oi:Oper):Prop:=oi.conf.contains oj.ix=true->∀ aj ai,(oj.ix,aj)∈tr->(oi.ix,ai)∈tr->Acc.free aj ai=true
theorem RunT.front {tr:List (Nat × Acc)} {oi:Oper} {post:List Oper}:∀ {pre:List Oper} {s e:St},RunT Γ K base tr (pre++oi::post) s e->(∀ oj∈pre,b0h oi oj=true/\Pairs tr oj oi) →
 RunT Γ K base tr (oi::(pre++post)) s e
 | [],_,_,h,_=>h
 | oj::pre,s,e,⟨s1,h1,h2,h3⟩,hp=>by
  obtain ⟨s2,k1,k2,k3⟩:=RunT.front h3 (fun o ho=>hp o (by simp [ho]))
  obtain ⟨p1,p2⟩:=hp oj (by simp)
  obtain ⟨s1',s2',e1,e2,e3,e4,e5,e6,e7⟩:=b8k p1 h1 k1 (fun hc w1 w2=>p2 hc _ _ (h2 w1) (k2 w2))
  refine ⟨s1',e1,fun hw=>?_,s2',e2,fun hw=>?_,k3.eqv e3⟩
  ·rw [e4] at hw;rw [e5];exact k2 hw
  ·rw [e6] at hw;rw [e7];exact h2 hw
theorem b2u:∀ (L:List Oper) (s e:St) (tr tr':List (Nat × Acc)),a3c Γ K base L (s,tr)=some (e,tr')->(L.map (·.ix)).Nodup->(∀ p∈tr,p.1 ∉ L.map (·.ix)) →
 RunT Γ K base tr' L s e/\(∀ p∈tr,p∈tr')/\(∀ p∈tr',p∈tr\/p.1∈L.map (·.ix))/\L.Pairwise (Pairs tr') ∧
  (∀ oi∈L,∀ p∈tr,oi.conf.contains p.1=true->∀ ai,(oi.ix,ai)∈tr'->Acc.free p.2 ai=true)
 | [],s,e,tr,tr',h,_,_=>by
  simp only [a3c,Option.some.injEq,Prod.mk.injEq] at h
  obtain ⟨rfl,rfl⟩:=h
  exact ⟨Eqv.refl _,fun p h=>h,fun p h=>.inl h,.nil,by simp⟩
 | o::os,s,e,tr,tr',h,hn,hd=>by
  simp only [a3c] at h
  split at h
  ·cases h
  ·rename_i q hq
   obtain ⟨s1,tr1⟩:=q
   simp only [List.map_cons,List.nodup_cons] at hn
   have hstep:step Γ K base o s=some s1/\((wanted o s.t=some true/\tr1=(o.ix,acc base (rd Γ s.t) o.op)::tr/\(∀ j∈o.conf,∀ p∈tr,p.1=j->Acc.free p.2 (acc base (rd Γ s.t) o.op)=true))\/(wanted o s.t≠some true/\tr1=tr)):=by
    unfold stepT at hq
    split at hq
    ·cases hq
    ·rename_i hw
     simp only [Option.map_eq_some_iff,Prod.mk.injEq] at hq
     obtain ⟨s2,h1,rfl,rfl⟩:=hq
     exact ⟨h1,.inr ⟨by simp only [hw];simp,rfl⟩⟩
    ·rename_i hw
     dsimp only at hq
     split at hq
     ·rename_i hall
      simp only [Option.map_eq_some_iff,Prod.mk.injEq] at hq
      obtain ⟨s2,h1,rfl,rfl⟩:=hq
      refine ⟨h1,.inl ⟨hw,rfl,fun j hj p hp hpj=>?_⟩⟩
      have:=List.all_eq_true.1 (List.all_eq_true.1 hall j hj) p hp
      simpa [hpj] using this
     ·cases hq
   obtain ⟨h1,hcase⟩:=hstep
   have hd1:∀ p∈tr1,p.1 ∉ os.map (·.ix):=by
    rcases hcase with ⟨_,rfl,_⟩|⟨_,rfl⟩
    ·intro p hp
     rcases List.mem_cons.1 hp with rfl|hp
     ·exact hn.1
     ·exact fun hm=>hd p hp (by simp only [List.map_cons,List.mem_cons];exact .inr hm)
    ·exact fun p hp hm=>hd p hp (by simp only [List.map_cons,List.mem_cons];exact .inr hm)
   obtain ⟨r1,r2,r3,r4,r5⟩:=b2u os s1 e tr1 tr' h hn.2 hd1
   have sub:∀ p∈tr,p∈tr1:=by
    rcases hcase with ⟨_,rfl,_⟩|⟨_,rfl⟩
    ·exact fun p hp=>List.mem_cons_of_mem _ hp
    ·exact fun p hp=>hp
   -- the record of o
   have own:∀ a,(o.ix,a)∈tr'->wanted o s.t=some true/\a=acc base (rd Γ s.t) o.op:=fun a ha=>by
    have h0:(o.ix,a)∈tr1:=(r3 _ ha).resolve_right hn.1
    rcases hcase with ⟨hw,rfl,_⟩|⟨_,rfl⟩
    ·rcases List.mem_cons.1 h0 with e0|e0
     ·simp only [Prod.mk.injEq,true_and] at e0;exact ⟨hw,e0⟩
     ·exact absurd (by simp) (hd _ e0)
    ·exact absurd (by simp) (hd _ h0)
   refine ⟨⟨s1,h1,fun hw=>?_,r1⟩,fun p hp=>r2 p (sub p hp),fun p hp=>?_,List.pairwise_cons.2 ⟨fun oi hoi=>?_,r4⟩,fun oi hoi p hp hc ai hai=>?_⟩
   ·rcases hcase with ⟨_,rfl,_⟩|⟨hw',_⟩
    ·exact r2 _ (by simp)
    ·exact absurd hw hw'
   ·rcases r3 p hp with h|h
    ·rcases hcase with ⟨_,rfl,_⟩|⟨_,rfl⟩
     ·rcases List.mem_cons.1 h with rfl|h
      ·exact .inr (by simp)
      ·exact .inl h
     ·exact .inl h
    ·exact .inr (by simp only [List.map_cons,List.mem_cons];exact .inr h)
   ·intro hc aj ai hj hi
    obtain ⟨hw,rfl⟩:=own aj hj
    have hm:(o.ix,acc base (rd Γ s.t) o.op)∈tr1:=by
     rcases hcase with ⟨_,rfl,_⟩|⟨hw',_⟩
     ·simp
     ·exact absurd hw hw'
    exact r5 oi hoi _ hm hc ai hi
   ·rcases List.mem_cons.1 hoi with rfl|hoi
    ·obtain ⟨hw,rfl⟩:=own ai hai
     rcases hcase with ⟨_,_,hf⟩|⟨hw',_⟩
     ·exact hf p.1 (by simpa using hc) p hp rfl
     ·exact absurd hw hw'
    ·exact r5 oi hoi p (sub p hp) hc ai hai
end Go.Pm
namespace Go.Pm
inductive KC:C->Value->Prop
 | int (k:IntKind) (n:Int):KC (.int k n) (.int k n)
 | bool (b:Bool):KC (.bool b) (.bool b)
 | str (s:ByteArray):KC (.str s) (.string s)
 | nilf:KC .nilf .nilFunc
 | nilp:KC .nilp (.pointer none)
 | nili:KC .nili .nilIface
 | slNil (es:Nat):KC (.sl .nil es []) (.slice none 0 0)
 | imapNil (ka va:Bool):KC (.imap ka va []) (.map none)
theorem KC.rc {S:Seat} {g:Gh} {c:C} {v:Value} (h:KC c v):RC S g c v:=by
 cases h
 ·exact .int _ _
 ·exact .bool _
 ·exact .str _
 ·exact .nilf
 ·exact .nilp
 ·exact .nili
 ·exact .slNil _
 ·exact .imapNil _ _
theorem KC.pure {c:C} {v:Value} (h:KC c v):c.pure=true:=by cases h<;>rfl
def KL (z:List C) (vs:List Value):Prop:=z.length=vs.length/\∀ (j:Nat) c v,z[j]?=some c->vs[j]?=some v->KC c v
inductive KV:V->Value->Prop
 | sc (c:C) (v:Value) (h:KC c v):KV (.sc c) v
 | agg (z:List C) (vs:Array Value) (h:KL z vs.toList):KV (.agg z) (.agg vs)
 | undef:KV (.tup []) (.tuple #[])
theorem KV.rv {S:Seat} {g:Gh} {v:V} {x:Value} (h:KV v x):RV S g v x:=by
 cases h with
 | sc c _ h=>exact .sc c _ h.rc
 | agg z vs h=>exact .agg z vs (by simpa using h.1) fun j c v a b=>(h.2 j c v a (by simpa using b)).rc
 | undef=>exact .tup [] #[] rfl fun j v w a b=>by simp at a
inductive MR (S:Seat) (G:List Nat):Rand->Operand->Prop
 | t (i:Nat):MR S G (.t i) (.tmp i)
 | k (v:V) (x:Value) (h:KV v x):MR S G (.k v) (.const x)
 | f (id:Nat):MR S G (.f id) (.func (S.fm id))
 | g (id:Nat) (h:id∈G):MR S G (.g id) (.global (S.gm id))
inductive MT (S:Seat) (G:List Nat):Rand->Operand->Prop
 | r (x x') (h:MR S G x x'):MT S G x x'
 | tk (i:Nat):MT S G (.tk i) (.tmp i)
inductive MP (S:Seat) (G:List Nat):Rand->Operand->Prop
 | r (x x') (h:MR S G x x'):MP S G x x'
 | pk (i j:Nat):MP S G (.pk i) (.tmp j)
def MPs (S:Seat) (G:List Nat):List Rand->List Operand->Prop
 | [],[]=>True
 | x::xs,y::ys=>MP S G x y/\MPs S G xs ys
 | _,_=>False
def MRs (S:Seat) (G:List Nat):List Rand->List Operand->Prop
 | [],[]=>True
 | x::xs,y::ys=>MR S G x y/\MRs S G xs ys
 | _,_=>False
def MRo (S:Seat) (G:List Nat):Option Rand->Option Operand->Prop
 | none,none=>True
 | some x,some y=>MR S G x y
 | _,_=>False
def a5C:TypeDesc->Bool
 | .struct _ | .array _ _=>true
 | _=>false
def TSh (P:Program) (t:TypeId):Option Nat->Prop
 | none=>∃ d,P.underlying t=some d/\a5C d=false
 | some n=>∃ d i,P.underlying t=some d/\a5C d=true/\P.info? t=some i/\i.size=n
def a3o (P:Program) (t:TypeId) (n:Nat):Prop:=∃ i,P.info? t=some i/\i.size=n
def a5G (P:Program) (t:TypeId) (z:List C):Prop:=∃ i zv,P.info? t=some i/\i.zero=some zv/\KL z zv.cells.toList
def a7g (P:Program) (t:TypeId) (z:V):Prop:=∃ i zv,P.info? t=some i/\i.zero=some zv/\KV z zv
def a7Q (P:Program) (f:TypeId->Option KT):Nat->List Field->Option (List Nat)
 | _,[]=>some []
 | off,x::xs=>match f x.type with
  | none=>none
  | some k=>if x.name ≠ "_"/\x.offset=off/\(P.info? x.type).map (·.size)=some k.tags.length then (a7Q P f (off+k.tags.length) xs).map (k.tags++·) else none
def flat (P:Program):Nat->TypeId->Option KT
 | 0,_=>none
 | d+1,t=>match P.underlying t with
  | some .bool=>some ⟨false,[0]⟩
  | some (.int _)=>some ⟨false,[1]⟩
  | some .string=>some ⟨false,[2]⟩
  | some (.struct fs)=>if P.stoodInHeld t then none else (a7Q P (flat P d) 0 fs.toList).map (⟨true,·⟩)
  | some (.array len e)=>match flat P d e with
   | some k=>if (P.info? e).map (·.size)=some k.tags.length then some ⟨true,(List.replicate len k.tags).flatten⟩ else none
   | none=>none
  | _=>none
structure AppTy (S:Seat) (t t2:TypeId) (es:Nat) where
 e:TypeId
 e2:TypeId
 i:TypeInfo
 zv:Value
 hu:S.P.underlying t=some (.slice e)
 hu2:S.P.underlying t2=some (.slice e2)
 hi:S.P.info? e=some i
 hs:i.size=es
 hb:i.bytes<=16384
 hb0:0<i.bytes
 he:0<es
 hz:i.zero=some zv
 hzs:zv.cells.size=es
inductive MOp (S:Seat) (G:List Nat):Op->Go.Op->Prop
  | mv (x x') (h:MT S G x x'):MOp S G (.mv x) (.move x')
  | asg (x x') (h:MT S G x x'):MOp S G (.mv x) (.assign x')
  | pick (c a b c' a' b') (h1:MR S G c c') (h2:MR S G a a') (h3:MR S G b b'):MOp S G (.pick c a b) (.pick c' a' b')
  | alloc (a z t) (h:a5G S.P t z):MOp S G (.alloc a z) (.alloc t)
  | box (a x t x') (h:MT S G x x'):MOp S G (.box a x) (.box t x')
  | build (z ps t ps') (hz:a5G S.P t z)
      (hp:∃ f:Nat->Option (Nat × Nat),(ps.map fun p=>some (p.1,p.2.1))=(ps'.toList.map fun p=>f p.1) ∧
        ((∃ fs,S.P.underlying t=some (.struct fs)/\(∀ x∈fs,(S.P.info? x.type).isSome)/\f=fun i=>fs[i]?.map fun x=>(x.offset,S.P.cellsOf x.type)) ∨
         (∃ len e,S.P.underlying t=some (.array len e)/\(S.P.info? e).isSome/\f=fun i=>some (i*S.P.cellsOf e,S.P.cellsOf e))))
      (hr:MRs S G (ps.map (·.2.2)) (ps'.toList.map (·.2))):MOp S G (.build z ps) (.build t ps')
  | bslice (es n z ps t ps' e) (hu:S.P.underlying t=some (.slice e)) (hs:a3o S.P e es) (hz:a5G S.P e z) (hn:n*es<=2 ^ 24) (he:0<es)
      (hi:ps.map (·.1)=ps'.toList.map (·.1)) (hr:MRs S G (ps.map (·.2)) (ps'.toList.map (·.2))):MOp S G (.bslice es n z ps) (.buildSlice t n ps')
  | mkslice (es n z t e i) (hu:S.P.underlying t=some (.slice e)) (hi:S.P.info? e=some i) (hs:i.size=es) (hz:a5G S.P e z) (hn:n*es<=2 ^ 24) (he:0<es) (hb:i.bytes*n<=2 ^ 40) :
      MOp S G (.bslice es n z []) (.makeSlice t (.const (.int .i64 n)) (.const (.int .i64 n)))
  | load (n x t x') (h:MR S G x x') (hs:TSh S.P t n):MOp S G (.load n x) (.load t x')
  | loadT (x t x') (h:MR S G x x') (hs:TSh S.P t none):MOp S G (.loadT x) (.load t x')
  | store (n x v t x' v') (h:MR S G x x') (h2:MT S G v v') (hs:a3o S.P t n):MOp S G (.store n x v) (.store t x' v')
  | bin (op x y t x' y' t2) (h:MR S G x x') (h2:MR S G y y'):MOp S G (.bin op x y) (.binOp op t x' y' t2)
  | eqf (neg ty x y t x' y' t2 d) (h:MR S G x x') (h2:MR S G y y') (hf:flat S.P d t=some ty) (hd:d<=100) (hty:ty.agg=true\/ty=⟨false,[0]⟩) (hg:S.P.eqGuardType S.P.depth t=false) :
      MOp S G (.eqf neg ty x y) (.binOp (if neg then .neq else .eql) t x' y' t2)
  | isnil (kd neg x t x' y t2 d) (h:MR S G x x') (hu:S.P.underlying t=some d)
      (hy:(kd=0/\y=.slice none 0 0/\∃ e,d=.slice e)\/(kd=1/\y=.nilFunc/\∃ a b c,d=.func a b c)\/(kd=2/\y=.pointer none/\∃ e,d=.pointer e)) :
      MOp S G (.isnil kd neg x) (.binOp (if neg then .neq else .eql) t x' (.const y) t2)
  | un (op x t x') (h:MR S G x x'):MOp S G (.un op x) (.unOp op t x')
  | conv (k x s d x' e) (h:MR S G x x') (hd:S.P.underlying d=some (.int k)) (hs:S.P.underlying s=some e) (ht:∀ a,e≠.slice a):MOp S G (.conv k x) (.convert s d x')
  | mkf (id sh first cap first' cap') (h1:MRs S G first first') (h2:MRs S G cap cap'):MOp S G (.mkf id sh first cap) (.makeFunc (.func (S.fm id)) first'.toArray cap'.toArray)
  | mkmap (a ka va t):MOp S G (.mkmap a ka va) (.makeMap t none)
  | slice (es x lo hi mx t x' lo' hi' mx' e) (h:MR S G x x') (h1:MRo S G lo lo') (h2:MRo S G hi hi') (h3:MRo S G mx mx') (hu:S.P.underlying t=some (.slice e)) (hs:a3o S.P e es) :
      MOp S G (.slice es x lo hi mx) (.slice t x' lo' hi' mx')
  | slArr (n es x lo hi mx t x' lo' hi' mx' e) (h:MR S G x x') (h1:MRo S G lo lo') (h2:MRo S G hi hi') (h3:MRo S G mx mx') (hu:S.P.underlying t=some (.array n e)) (hs:a3o S.P e es) :
      MOp S G (.slArr n es x lo hi mx) (.slice t x' lo' hi' mx')
  | faddr (off x t x' i fs f) (h:MR S G x x') (hu:S.P.underlying t=some (.struct fs)) (hf:fs[i]?=some f) (ho:f.offset=off) (hs:∃ i,S.P.info? f.type=some i/\i.size≠0) :
      MOp S G (.faddr off x) (.fieldAddr t x' i)
  | field (off n x t x' i fs f) (h:MR S G x x') (hu:S.P.underlying t=some (.struct fs)) (hf:fs[i]?=some f) (ho:f.offset=off) (hs:TSh S.P f.type n) :
      MOp S G (.field off n x) (.field t x' i)
  | iaddr (es x i t x' i' e) (h:MR S G x x') (h2:MR S G i i') (hu:S.P.underlying t=some (.slice e)) (hs:a3o S.P e es):MOp S G (.iaddr es x i) (.indexAddr t x' i')
  | iarr (len es x i t x' i' e) (h:MR S G x x') (h2:MR S G i i') (hu:S.P.underlying t=some (.array len e)) (hs:a3o S.P e es):MOp S G (.iarr len es x i) (.indexAddr t x' i')
  | index (len es n x i t x' i' e) (h:MR S G x x') (h2:MR S G i i') (hu:S.P.underlying t=some (.array len e)) (hs:a3o S.P e es) (hn:TSh S.P e n) :
      MOp S G (.index len es n x i) (.index t x' i')
  | istr (x i t x' i') (h:MR S G x x') (h2:MR S G i i') (hu:S.P.underlying t=some .string):MOp S G (.istr x i) (.index t x' i')
  | lookup (ok ty z m key t m' key' kt et d) (h:MR S G m m') (h2:MR S G key key') (hu:S.P.underlying t=some (.map kt et)) (hz:a7g S.P et z) (hk:flat S.P d kt=some ty) (hd:d<=100) :
      MOp S G (.lookup ok ty z m key) (.lookup t m' key' ok)
  | mupd (ty m key v t m' key' v' kt et d) (h:MR S G m m') (h2:MR S G key key') (h3:MR S G v v') (hu:S.P.underlying t=some (.map kt et)) (hk:flat S.P d kt=some ty) (hd:d<=100) :
      MOp S G (.mupd ty m key v) (.mapUpdate t m' key' v')
  | ins (ty m key v t m' key' v' kt et d) (h:MR S G m m') (h2:MR S G key key') (h3:MR S G v v') (hu:S.P.underlying t=some (.map kt et)) (hk:flat S.P d kt=some ty) (hd:d<=100) :
      MOp S G (.mupd ty m key v) (.insert t m' key' v')
  | mkset (a n t):MOp S G (.mkset a n) (.makeMap t none)
  | kset (a n t):MOp S G (.kset a n) (.makeMap t none)
  | slook (n m key t m' key' kt et d) (h:MR S G m m') (h2:MR S G key key') (hu:S.P.underlying t=some (.map kt et)) (hz:a7g S.P et (.sc (.bool false))) (hk:flat S.P d kt=some ⟨true,List.replicate n 1⟩) (hd:d<=100) :
      MOp S G (.slook n m key) (.lookup t m' key' false)
  | sadd (n m key t m' key' kt et d) (h:MR S G m m') (h2:MR S G key key') (hu:S.P.underlying t=some (.map kt et)) (hk:flat S.P d kt=some ⟨true,List.replicate n 1⟩) (hd:d<=100) :
      MOp S G (.sadd n m key) (.mapUpdate t m' key' (.const (.bool true)))
  | sins (n m key t m' key' kt et d) (h:MR S G m m') (h2:MR S G key key') (hu:S.P.underlying t=some (.map kt et)) (hk:flat S.P d kt=some ⟨true,List.replicate n 1⟩) (hd:d<=100) :
      MOp S G (.sadd n m key) (.insert t m' key' (.const (.bool true)))
  | rng (a x t x' kt et) (h:MR S G x x') (hu:S.P.underlying t=some (.map kt et)):MOp S G (.rng a x) (.range t x')
  | ext (x i x') (h:MR S G x x'):MOp S G (.ext x i) (.extract x' i)
  | len (k x x' t) (h:MR S G x x') (hu:(k=0/\S.P.underlying t=some .string)\/(k=1/\∃ e,S.P.underlying t=some (.slice e))\/(k=2/\∃ kt e,S.P.underlying t=some (.map kt e))) :
      MOp S G (.len k x) (.call { callee:=.builtin .len,args:=#[x'],argTypes:=#[t] })
  | lenArr (n x' t) (hu:(∃ e,S.P.underlying t=some (.array n e))\/(∃ p e,S.P.underlying t=some (.pointer p)/\S.P.underlying p=some (.array n e))) :
      MOp S G (.lenArr n) (.call { callee:=.builtin .len,args:=#[x'],argTypes:=#[t] })
  | min (x xs x' xs' ts) (h:MR S G x x') (h2:MRs S G xs xs'):MOp S G (.min x xs) (.call { callee:=.builtin .min,args:=(x'::xs').toArray,argTypes:=ts })
  | max (x xs x' xs' ts) (h:MR S G x x') (h2:MRs S G xs xs'):MOp S G (.max x xs) (.call { callee:=.builtin .max,args:=(x'::xs').toArray,argTypes:=ts })
  | append (es x y x' y' t t2) (h:MT S G x x') (h2:MR S G y y') (T:AppTy S t t2 es) :
      MOp S G (.append es x y) (.call { callee:=.builtin .append,args:=#[x',y'],argTypes:=#[t,t2] })
  | appendP (es x y x' y' t t2) (h:MT S G x x') (h2:MR S G y y') (T:AppTy S t t2 es) :
      MOp S G (.appendP es x y) (.call { callee:=.builtin .append,args:=#[x',y'],argTypes:=#[t,t2] })
  | appendM (a0 es x y x' y' t t2) (h:MR S G x x') (h2:MR S G y y') (T:AppTy S t t2 es) :
      MOp S G (.appendM a0 es x y) (.call { callee:=.builtin .append,args:=#[x',y'],argTypes:=#[t,t2] })
  | copy (es x y x' y' t t2 e) (h:MR S G x x') (h2:MR S G y y') (hu:S.P.underlying t=some (.slice e)) (hs:a3o S.P e es) (he:0<es) :
      MOp S G (.copy es x y) (.call { callee:=.builtin .copy,args:=#[x',y'],argTypes:=#[t,t2] })
  | clear (es z x x' t e) (h:MR S G x x') (hu:S.P.underlying t=some (.slice e)) (hz:a5G S.P e z) (he:0<es) :
      MOp S G (.clear es z x) (.call { callee:=.builtin .clear,args:=#[x'],argTypes:=#[t] })
  | lenP (i t e) (hu:S.P.underlying t=some (.slice e)):MOp S G (.len 1 (.pk i)) (.call { callee:=.builtin .len,args:=#[.tmp i],argTypes:=#[t] })
  | late (o o') (hp:o.plain=true) (h:MOp S G o o'):MOp S G (.late o) o'
  | nilchk (x x') (h:MR S G x x'):MOp S G (.nilchk x) (.nilCheck x')
  | call (p f args f' args' ts) (h:MR S G f f') (h2:MRs S G args args'):MOp S G (.call p f args) (.call { callee:=.value f',args:=args'.toArray,argTypes:=ts })
  | callP (f args f' args' ts) (h:MR S G f f') (h2:MPs S G args args'):MOp S G (.call true f args) (.call { callee:=.value f',args:=args'.toArray,argTypes:=ts })
def binds (o:Go.Oper):List Nat:=(o.after.toList.filter fun e=>Region.binds .any e).map (·.on)
structure MOper (S:Seat) (G:List Nat) (nt:Nat) (ops:Array Go.Oper) (o:Oper) (o':Go.Oper):Prop where
 dst:o'.dst=o.dst
 lt:∀ d,o.dst=some d->d<nt
 op:MOp S G o.op o'.op
 guard:match o.guard,o'.guard with
  | none,none=>True
  | some (s,b),some (j,b')=>b=b'/\(ops[j]?).bind (·.dst)=some s
  | _,_=>False
def a4M (S:Seat) (G:List Nat) (nt:Nat) (ops:Array Go.Oper):List Oper->List Go.Oper->Prop
 | [],[]=>True
 | o::os,o'::os'=>MOper S G nt ops o o'/\a4M S G nt ops os os'
 | _,_=>False
def e8v (o:Op) (o':Go.Op) (i j:Nat):Prop:=∃ p f,∃ args:List Rand,∃ f',∃ args':Array Operand,∃ ts,∃ k:Nat,o=.call p f args/\o'=.call { callee:=.value f',args:=args',argTypes:=ts }/\args[k]?=some (.pk i)/\args'[k]?=some (.tmp j)
abbrev Al:=Option (Nat × Bool) × Nat × Nat
def e8w (gd:Option (Nat × Bool)) (d:Nat):Bool:=match gd with
 | none=>true
 | some (g,_)=>decide (g≠d)
def keepA (d:Option Nat) (e:Al):Bool:=match d with
 | none=>true
 | some d=>decide (e.2.1≠d)&&decide (e.2.2≠d)&&e8w e.1 d
def e9E (A:List Al) (o:Oper):List Al :=
 (match o.op,o.dst with
  | .mv (.t i),some j=>if i≠j/\e8w o.guard j=true then [(o.guard,i,j)] else []
  | _,_=>[])++(if o.op.takes=[] then A.filter (keepA o.dst) else [])
def AlOk:List Al->List Oper->List Go.Oper->Prop
 | A,o::os,o'::os'=>(∀ i j,e8v o.op o'.op i j->i=j\/(o.guard,i,j)∈A\/(none,i,j)∈A)/\AlOk (e9E A o) os os'
 | _,_,_=>True
def AlD (ops:List Oper) (ops':List Go.Oper):Prop:=∀ (k:Nat) o o',ops[k]?=some o->ops'[k]?=some o'->∀ i j,e8v o.op o'.op i j->i=j
def b1F:Ex->Option Code
 | .norm=>none
 | .exit id=>some (.exit id)
 | .ret=>some .ret
structure DrawOk (ops:List Oper) (ops':List Go.Oper):Prop where
 ix:∀ (i:Nat) o,ops[i]?=some o->o.ix=i
 lt:∀ (i:Nat) o,ops'[i]?=some o->∀ j∈binds o,j<i
 apart:∃ anc:Nat->List Nat,(∀ (i:Nat) o,ops'[i]?=some o->∀ j∈anc i,j∈binds o\/∃ k∈binds o,j∈anc k) ∧
  ∀ (i j:Nat) a b,j<i->ops[i]?=some a->ops[j]?=some b->j ∉ anc i->b0h a b=true
structure UnionM (S:Seat) (G:List Nat) (nt it dst n:Nat) (keep:List Nat) (nxt m pr ks bx u kv:Nat) (z:List C) (o0 o1 a0 a1 a2 a3 b0 b1 b2:Go.Oper):Prop where
 h0:o0.op=.next (.tmp it) false/\o0.dst=some nxt/\o0.guard=none
 h1:o1.op=.extract (.tmp nxt) 0/\o1.dst=some m/\o1.guard=none
 h2:a0.op=.entry (.tmp it)/\a0.dst=some pr/\a0.guard=none
 h3:a1.op=.extract (.tmp pr) 0/\a1.dst=some ks/\a1.guard=none
 h4:a4M S G nt #[a0,a1,a2,a3] [{ dst:=some bx,op:=.alloc 0 z },{ op:=.store n (.t bx) (.t ks) }] [a2,a3]
 h5:a4M S G nt #[b0,b1,b2] [{ dst:=some u,op:=.mv (.t dst) },{ dst:=some kv,op:=.load (some n) (.t bx) },{ op:=.sadd n (.t u) (.t kv) }] [b0,b1,b2]
 hz:z.length=n
 hp:C.a0v z=true
 hn:0<n
 nd:(it::dst::[nxt,m,pr,ks,bx,u,kv]).Nodup
 lt:nxt<nt/\m<nt/\pr<nt/\ks<nt
 kp:∀ x∈keep,x ∉ [nxt,m,pr,ks,bx,u,kv]
inductive MC (S:Seat) (G:List Nat) (nt:Nat):Bool->AC->Code->Prop
 | skip (r:Bool):MC S G nt r .skip .skip
 | label (r:Bool) (l:Nat):MC S G nt r .skip (.label l)
 | seqLabel (r:Bool) (l:Nat) (a:AC) (y:Code) (h:MC S G nt r a y):MC S G nt r a (.seq (.label l) y)
 | scope (r:Bool) (a:AC) (y:Code) (h:MC S G nt r a y):MC S G nt r a (.scope y)
 | seq (r:Bool) (a b:AC) (x y:Code) (h1:MC S G nt r a x) (h2:MC S G nt r b y):MC S G nt r (.seq a b) (.seq x y)
 | cond (r:Bool) (c:Rand) (c':Operand) (a b:AC) (x y:Code) (h:MR S G c c') (h1:MC S G nt r a x) (h2:MC S G nt r b y):MC S G nt r (.cond c a b) (.cond c' x y)
 | block (r:Bool) (id:Nat) (a:AC) (x:Code) (h:MC S G nt r a x):MC S G nt r (.block id a) (.block id x)
 | loop (r:Bool) (keep:List Nat) (a:AC) (x:Code) (h:MC S G nt r a x):MC S G nt r (.loop keep a) (.loop x)
 | exit (r:Bool) (id:Nat):MC S G nt r (.exit id) (.exit id)
 | ret (r:Bool):MC S G nt r .ret .ret
 | frz (r:Bool) (i:Nat) (a:AC) (y:Code) (h:MC S G nt r a y):MC S G nt r (.frz i a) y
 | frzc (r:Bool) (i:Nat) (a:AC) (y:Code) (h:MC S G nt r a y):MC S G nt r (.frzc i a) y
 | region (r:Bool) (nal:Nat) (ops:List Oper) (keep:List Nat) (id:Nat) (ops':Array Go.Oper) (h:a4M S G nt ops' ops ops'.toList) (hk:AlOk [] ops ops'.toList):MC S G nt r (.region nal ops false keep) (.region id ops' false)
 | draw (r:Bool) (nal:Nat) (ops:List Oper) (keep:List Nat) (id:Nat) (ops':Array Go.Oper) (h:a4M S G nt ops' ops ops'.toList) (hd:DrawOk ops ops'.toList) (hk:AlD ops ops'.toList) :
  MC S G nt r (.region nal ops true keep) (.region id ops' true)
 | stuck (r:Bool) (c:Code):MC S G nt r .stuck c
 | union (r:Bool) (keep:List Nat) (it dst n o nx r3 r4 r5 nxt m pr ks bx u kv:Nat) (z:List C) (o0 o1 a0 a1 a2 a3 b0 b1 b2:Go.Oper) (h:UnionM S G nt it dst n keep nxt m pr ks bx u kv z o0 o1 a0 a1 a2 a3 b0 b1 b2) :
  MC S G nt r (.union keep it dst n) (.block o (.loop (.seq (.region r3 #[o0,o1] false) (.seq (.cond (.tmp m) .skip (.exit o)) (.block nx (.seq (.region r4 #[a0,a1,a2,a3] false) (.region r5 #[b0,b1,b2] false)))))))
 | rfunc (f:Rand) (f':Operand) (ps:List Nat) (a b:AC) (x y:Code) (h:MR S G f f') (h1:MC S G nt true a x) (h2:MC S G nt true b y) (hp:∀ p∈ps,p<nt) :
  MC S G nt false (.rfunc f ps a b) (.rangeFunc f' ps.toArray x y)
end Go.Pm
namespace Go.Pm
def live:Obj->Bool
 | .dead | .free=>false
 | _=>true
def a6U:Obj->Bool
 | .free=>true
 | _=>false
def KR (S:Seat) (g:Gh) (agg:Bool) (cs:List C) (v:Value):Prop :=
 ∃ vs:List Value,v=ofV agg vs/\vs.length=cs.length/\(agg=false->cs.length=1)/\∀ (j:Nat) c x,cs[j]?=some c->vs[j]?=some x->RC S g c x
def lsOf:LS->LoopState
 | .ready=>.ready
 | .busy=>.busy
 | .done=>.done
def RObj (S:Seat) (G:List Nat) (g:Gh) (w:World):Obj->Nat->Prop
 | .dead,_=>True
 | .free,_=>True
 | .var cs,b=>∃ vals elem,w.heap[b]?=some (.cells vals elem (0,0))/\cs.length<=vals.size/\∀ (j:Nat) c x,cs[j]?=some c->vals[j]?=some x->RO S g w c x
 | .map ka va l ph,b=>∃ es:Array MapEntry,w.heap[b]?=some (.map es es.size)/\(∀ (i:Nat) m,es[i]?=some m->m.born=i) ∧
  es.size=l.length+(if ph.isSome then 1 else 0) ∧
  (∀ (i:Nat) e m,l[i]?=some e->es[i]?=some m->KR S g ka e.1 m.key/\KR S g va e.2 m.val/\C.a0v e.1=true/\C.a0v e.2=true) ∧
  (∀ k z m,ph=some (k,z)->es[l.length]?=some m->KR S g ka k m.key/\KR S g va z m.val/\C.a0v k=true/\C.a0v z=true)
 | .set n f,b=>∃ es:Array MapEntry,w.heap[b]?=some (.map es es.size)/\(∀ (i:Nat) m,es[i]?=some m->m.born=i)/\a7s n f es.toList
 | .iter n f,b=>∃ (es:Array MapEntry) (r:Nat),w.heap[b]?=some (.mapIter (some r) es.size #[] es.size)/\g.N r=some es/\(∀ (i:Nat) m,es[i]?=some m->m.born=i)/\a7s n f es.toList
 | .loop st pend t ps a b',b=>∃ (L:Loop) (nt:Nat),w.heap[b]?=some (.loop L)/\L.state=lsOf st/\L.pending=pend.bind b1F/\L.params.toList=ps ∧
  MC S G nt true a L.assign/\MC S G nt true b' L.body/\L.tmps.size=nt/\(∀ i,RV S g (get t i) (L.tmps.getD i undef))/\(∀ p∈ps,p<nt)
def a1e (g:Gh) (h:List Obj) (w:World) (r j b:Nat):Prop :=
 ∃ cs es l vals elem fr a n cap,h[r]?=some (.var cs)/\cs[j]?=some (.own false es l)/\w.heap[g.σ r]?=some (.cells vals elem fr)/\vals[j]?=some (.slice (some a) n cap)/\a.block=b
def a0S (t:List (Nat × V)) (tm:Array Value) (i b:Nat):Prop :=
 ∃ p es l a n cap,get t i=.sc (.own p es l)/\tm.getD i undef=.slice (some a) n cap/\a.block=b
def Obj.und (n:Nat):Obj->Prop
 | .var cs=>C.a0G n cs=true
 | .loop _ _ t _ _ _=>∀ i,(get t i).under n=true
 | _=>True
theorem b3a {n:Nat}:∀ {t:List (Nat × V)},(t.all fun p=>p.2.under n)=true->∀ i,(get t i).under n=true
 | [],_,i=>rfl
 | (j,v)::t,h,i=>by
  simp only [List.all_cons,Bool.and_eq_true] at h
  simp only [get]
  split
  ·exact h.1
  ·exact b3a h.2 i
theorem c2y {n:Nat} {o:Obj} (h:o.under n=true):o.und n:=by
 cases o with
 | var cs=>exact h
 | loop st pend t ps a b=>exact b3a h
 | dead=>trivial
 | free=>trivial
 | map ka va l ph=>trivial
 | set n f=>trivial
 | iter n f=>trivial
structure RelH (S:Seat) (G:List Nat) (g:Gh) (h:List Obj) (w:World):Prop where
 ob:∀ (r:Nat) o,h[r]?=some o->RObj S G g w o (g.σ r)
 as:∀ r,g.A r->∃ o,h[r]?=some o/\a6U o=false
 lv:∀ (r:Nat) o,h[r]?=some o->live o=true->g.A r
 inj:∀ (r r':Nat) o o',h[r]?=some o->h[r']?=some o'->live o=true->live o'=true->g.σ r=g.σ r'->r=r'
 im:∀ b o v,g.M b o=some v->w.cell? ⟨b,o,none⟩=some v
 mm:∀ b es,g.N b=some es->∃ n,w.heap[b]?=some (.map es n)/\n=es.size
 djM:∀ (r:Nat) o,h[r]?=some o->live o=true->∀ k,g.M (g.σ r) k=none
 djN:∀ (r:Nat) o,h[r]?=some o->live o=true->g.N (g.σ r)=none
 gl:∀ id∈G,RC S g (.eptr (S.Γ.glob id) 0) (.pointer (some ⟨S.gm id,0,none⟩))
 ex:∀ r j r' j' b,a1e g h w r j b->a1e g h w r' j' b->r=r'/\j=j'
 cl:∀ r j b (r':Nat) o,a1e g h w r j b->h[r']?=some o->live o=true->g.σ r'≠b
theorem a8K (w:World) (o:Go.Obj) (i:Nat) (h:i<w.heap.size):(w.alloc o).heap[i]?=w.heap[i]?:=heap_alloc_old w o i h
structure Rel (S:Seat) (G:List Nat) (g:Gh) (nt:Nat) (s:St) (a:Act) (w:World):Prop where
 hp:RelH S G g s.h w
 sz:a.tmps.size=nt
 tm:∀ i,RT S g w (get s.t i) (a.tmps.getD i undef)
 exT:∀ i i' b,a0S s.t a.tmps i b->a0S s.t a.tmps i' b->i=i'
 exTH:∀ i b r j,a0S s.t a.tmps i b->a1e g s.h w r j b->False
 clT:∀ i b (r:Nat) o,a0S s.t a.tmps i b->s.h[r]?=some o->live o=true->g.σ r≠b
def a9f (g:Gh) (h:List Obj) (w:World) (b:Nat):Prop :=
 (∃ (r:Nat) (o:Obj),h[r]?=some o/\live o=true/\g.σ r=b)\/∃ r j,a1e g h w r j b
def Perm (g:Gh) (s:St) (a:Act) (w:World) (b:Nat):Prop:=a9f g s.h w b\/∃ i,a0S s.t a.tmps i b
structure Keeps (perm:Nat->Prop) (w w':World):Prop where
 size:w.heap.size<=w'.heap.size
 same:∀ b,b<w.heap.size->¬ perm b->w'.heap[b]?=w.heap[b]?
 out:w'.output=w.output
 os:w'.os=w.os
 tape:w'.tape=w.tape
theorem Keeps.refl (perm:Nat->Prop) (w:World):Keeps perm w w:=⟨Nat.le_refl _,fun _ _ _=>rfl,rfl,rfl,rfl⟩
theorem Keeps.trans {p q:Nat->Prop} {a b c:World} (h:Keeps p a b) (k:Keeps q b c) (hq:∀ x,x<a.heap.size->q x->p x):Keeps p a c :=
 ⟨Nat.le_trans h.size k.size,fun x hx hp=>(k.same x (Nat.lt_of_lt_of_le hx h.size) (fun hq'=>hp (hq x hx hq'))).trans (h.same x hx hp),k.out.trans h.out,k.os.trans h.os,k.tape.trans h.tape⟩
theorem Keeps.mono {p q:Nat->Prop} {a b:World} (h:Keeps p a b) (hq:∀ x,x<a.heap.size->p x->q x):Keeps q a b :=
 ⟨h.size,fun x hx hp=>h.same x hx (fun h'=>hp (hq x hx h')),h.out,h.os,h.tape⟩
section
variable {S:Seat} {G:List Nat} {g g':Gh} {nt:Nat} {s:St} {a:Act} {w w':World} {h:List Obj}
theorem a2A {b:Nat} {o:Go.Obj} (e:w.heap[b]?=some o):b<w.heap.size:=(Array.getElem?_eq_some_iff.1 e).1
theorem cell_of_heap {b j:Nat} {cs:Array Value} {t:TypeId} {fr:Nat × Nat} (e:w.heap[b]?=some (.cells cs t fr)):w.cell? ⟨b,j,none⟩=cs[j]?:=cell_of_row w b j cs t fr e
theorem M_lt (hR:RelH S G g h w) {b o:Nat} {v:Value} (e:g.M b o=some v):b<w.heap.size:=by
 have:=hR.im b o v e
 simp only [World.cell?] at this
 cases hb:w.heap[b]? with
 | none=>rw [hb] at this;cases this
 | some o=>exact a2A hb
theorem N_lt (hR:RelH S G g h w) {b:Nat} {es:Array MapEntry} (e:g.N b=some es):b<w.heap.size:=by
 obtain ⟨n,hn, -⟩:=hR.mm b es e
 exact a2A hn
theorem a3e (hR:RelH S G g h w) {r:Nat} {o:Obj} (e:h[r]?=some o) (hl:live o=true):g.σ r<w.heap.size:=by
 have ho:=hR.ob r o e
 cases o with
 | dead=>simp [live] at hl
 | free=>simp [live] at hl
 | var cs=>obtain ⟨vals,elem,hb,_⟩:=ho;exact a2A hb
 | map ka va l ph=>obtain ⟨es,hb,_⟩:=ho;exact a2A hb
 | set n f=>obtain ⟨es,hb,_⟩:=ho;exact a2A hb
 | iter n f=>obtain ⟨es,r,hb,_⟩:=ho;exact a2A hb
 | loop st pend t ps x y=>obtain ⟨L,n,hb,_⟩:=ho;exact a2A hb
theorem A_lt (hR:RelH S G g h w) {r:Nat} (hA:g.A r):r<h.length:=by
 obtain ⟨o,ho,_⟩:=hR.as r hA
 exact (List.getElem?_eq_some_iff.1 ho).1
theorem OwnAt.lt {p:Bool} {es:Nat} {l:List (List C)} {b off cap:Nat} (h:OwnAt S g w p es l b off cap):b<w.heap.size:=by
 obtain ⟨cs,elem,hb,_⟩:=h.blk
 exact a2A hb
theorem OwnAt.mono {p:Bool} {es:Nat} {l:List (List C)} {b off cap:Nat} (h:OwnAt S g w p es l b off cap) (hl:g.Le g') (hb:w'.heap[b]?=w.heap[b]?)
 (hM:∀ o,g'.M b o=g.M b o):OwnAt S g' w' p es l b off cap :=
 h.keep hl.im hl.mm hb fun o e=>by rw [hM];exact e
theorem a9R (hR:RelH S G g h w) {r j b:Nat} (hc:a1e g h w r j b):b<w.heap.size:=by
 obtain ⟨cs,es,l,vals,elem,fr,a,n,cap,h1,h2,h3,h4,rfl⟩:=hc
 obtain ⟨vals',elem',hb,hs,hro⟩:=hR.ob r _ h1
 rw [hb] at h3
 simp only [Option.some.injEq,Obj.cells.injEq] at h3
 obtain ⟨rfl,rfl,rfl⟩:=h3
 have:=hro j _ _ h2 h4
 cases this with
 | rc _ _ h=>exact absurd rfl (h.a2a false es l)
 | own es l b off cap ho=>exact ho.lt
theorem a8e (hR:Rel S G g nt s a w) {i b:Nat} (hc:a0S s.t a.tmps i b):b<w.heap.size:=by
 obtain ⟨p,es,l,ad,n,cap,h1,h2,rfl⟩:=hc
 have:=hR.tm i
 rw [h1,h2] at this
 cases this with
 | rv _ _ h =>
  cases h with
  | sc _ _ h=>exact absurd rfl (h.a2a p es l)
 | own p es l b off cap ho=>exact ho.lt
structure Grows (g g':Gh) (w w':World):Prop where
 le:g.Le g'
 A:∀ r,g'.A r->g.A r
 keeps:Keeps (fun _=>False) w w'
 im:∀ b o v,g'.M b o=some v->g.M b o=some v\/(w.heap.size<=b/\w'.cell? ⟨b,o,none⟩=some v)
 mm:∀ b es,g'.N b=some es->g.N b=some es\/(w.heap.size<=b/\∃ n,w'.heap[b]?=some (.map es n)/\n=es.size)
theorem Grows.old (k:Grows g g' w w') {b:Nat} (hb:b<w.heap.size):w'.heap[b]?=w.heap[b]?:=k.keeps.same b hb (fun h=>h)
theorem Grows.c0d (k:Grows g g' w w') {b o:Nat} (hb:b<w.heap.size):g'.M b o=g.M b o:=by
 cases e:g.M b o with
 | some v=>exact k.le.im b o v e
 | none =>
  cases e':g'.M b o with
  | none=>rfl
  | some v =>
   rcases k.im b o v e' with h|⟨h,_⟩
   ·rw [e] at h;cases h
   ·omega
theorem Grows.c3n (k:Grows g g' w w') {b:Nat} (hb:b<w.heap.size):g'.N b=g.N b:=by
 cases e:g.N b with
 | some v=>exact k.le.mm b v e
 | none =>
  cases e':g'.N b with
  | none=>rfl
  | some v =>
   rcases k.mm b v e' with h|⟨h,_⟩
   ·rw [e] at h;cases h
   ·omega
theorem Grows.own (k:Grows g g' w w') {p:Bool} {es:Nat} {l:List (List C)} {b off cap:Nat} (h:OwnAt S g w p es l b off cap):OwnAt S g' w' p es l b off cap :=
 h.mono k.le (k.old h.lt) (fun _=>k.c0d h.lt)
theorem Grows.ro (k:Grows g g' w w') {c:C} {v:Value} (h:RO S g w c v):RO S g' w' c v:=by
 cases h with
 | rc _ _ h=>exact .rc _ _ (h.mono k.le)
 | own es l b off cap h=>exact .own es l b off cap (k.own h)
theorem Grows.rt (k:Grows g g' w w') {c:V} {v:Value} (h:RT S g w c v):RT S g' w' c v:=by
 cases h with
 | rv _ _ h=>exact .rv _ _ (h.mono k.le)
 | own p es l b off cap h=>exact .own p es l b off cap (k.own h)
 | none es=>exact .none es
theorem KR.mono {agg:Bool} {cs:List C} {v:Value} (h:KR S g agg cs v) (hl:g.Le g'):KR S g' agg cs v:=by
 obtain ⟨vs,h1,h2,h3,h4⟩:=h
 exact ⟨vs,h1,h2,h3,fun j c x a b=>(h4 j c x a b).mono hl⟩
theorem Grows.robj (k:Grows g g' w w') {o:Obj} {b:Nat} (hl:live o=true->b<w.heap.size) (h:RObj S G g w o b):RObj S G g' w' o b:=by
 cases o with
 | dead=>trivial
 | free=>trivial
 | var cs =>
  obtain ⟨vals,elem,hb,hs,hro⟩:=h
  exact ⟨vals,elem,by rw [k.old (hl rfl)];exact hb,hs,fun j c x a b=>k.ro (hro j c x a b)⟩
 | map ka va l ph =>
  obtain ⟨es,hb,h1,h2,h3,h4⟩:=h
  exact ⟨es,by rw [k.old (hl rfl)];exact hb,h1,h2,
   fun i e m a b=>let ⟨x,y,z⟩:=h3 i e m a b;⟨x.mono k.le,y.mono k.le,z⟩,fun p z m a b=>let ⟨x,y,z⟩:=h4 p z m a b;⟨x.mono k.le,y.mono k.le,z⟩⟩
 | set n f =>
  obtain ⟨es,hb,h1,h2⟩:=h
  exact ⟨es,by rw [k.old (hl rfl)];exact hb,h1,h2⟩
 | iter n f =>
  obtain ⟨es,r,hb,h0,h1,h2⟩:=h
  exact ⟨es,r,by rw [k.old (hl rfl)];exact hb,k.le.mm _ _ h0,h1,h2⟩
 | loop st pend t ps x y =>
  obtain ⟨L,n,hb,h1,h2,h3,h4,h5,h6,h7,h8⟩:=h
  exact ⟨L,n,by rw [k.old (hl rfl)];exact hb,h1,h2,h3,h4,h5,h6,fun i=>(h7 i).mono k.le,h8⟩
theorem Grows.a8G (k:Grows g g' w w') (hR:RelH S G g h w) {r j b:Nat} (hc:a1e g' h w' r j b):a1e g h w r j b:=by
 obtain ⟨cs,es,l,vals,elem,fr,a,n,cap,h1,h2,h3,h4,rfl⟩:=hc
 have hA:=hR.lv r _ h1 rfl
 rw [k.le.eq r hA,k.old (a3e hR h1 rfl)] at h3
 exact ⟨cs,es,l,vals,elem,fr,a,n,cap,h1,h2,h3,h4,rfl⟩
theorem RelH.grow (hR:RelH S G g h w) (k:Grows g g' w w'):RelH S G g' h w' where
 ob:=fun r o e=>by
  by_cases hl:live o=true
  ·rw [k.le.eq r (hR.lv r o e hl)]
   exact k.robj (fun _=>a3e hR e hl) (hR.ob r o e)
  ·cases o<;>first|trivial|exact absurd rfl hl
 as:=fun r hA=>hR.as r (k.A r hA)
 lv:=fun r o e hl=>k.le.as r (hR.lv r o e hl)
 inj:=fun r r' o o' e e' hl hl' hσ=>hR.inj r r' o o' e e' hl hl' (by rw [← k.le.eq r (hR.lv r o e hl), ← k.le.eq r' (hR.lv r' o' e' hl')];exact hσ)
 im:=fun b o v e=>by
  rcases k.im b o v e with h|⟨_,h⟩
  ·have hb:=M_lt hR h
   have:=hR.im b o v h
   simp only [World.cell?] at this ⊢
   rw [k.old hb];exact this
  ·exact h
 mm:=fun b es e=>by
  rcases k.mm b es e with h|⟨_,h⟩
  ·obtain ⟨n,hn,h0⟩:=hR.mm b es h
   exact ⟨n,by rw [k.old (a2A hn)];exact hn,h0⟩
  ·exact h
 djM:=fun r o e hl o'=>by rw [k.le.eq r (hR.lv r o e hl),k.c0d (a3e hR e hl)];exact hR.djM r o e hl o'
 djN:=fun r o e hl=>by rw [k.le.eq r (hR.lv r o e hl),k.c3n (a3e hR e hl)];exact hR.djN r o e hl
 gl:=fun id hid=>(hR.gl id hid).mono k.le
 ex:=fun r j r' j' b c c'=>hR.ex r j r' j' b (k.a8G hR c) (k.a8G hR c')
 cl:=fun r j b r' o c e hl=>by rw [k.le.eq r' (hR.lv r' o e hl)];exact hR.cl r j b r' o (k.a8G hR c) e hl
theorem Rel.grow (hR:Rel S G g nt s a w) (k:Grows g g' w w'):Rel S G g' nt s a w' where
 hp:=hR.hp.grow k
 sz:=hR.sz
 tm:=fun i=>k.rt (hR.tm i)
 exT:=hR.exT
 exTH:=fun i b r j c d=>hR.exTH i b r j c (k.a8G hR.hp d)
 clT:=fun i b r o c e hl=>by rw [k.le.eq r (hR.hp.lv r o e hl)];exact hR.clT i b r o c e hl
theorem Grows.drew (g:Gh) (w:World):Grows g g w w.drew :=
 ⟨.refl g,fun _ h=>h,⟨Nat.le_refl _,fun _ _ _=>rfl,rfl,rfl,rfl⟩,fun _ _ _ h=>.inl h,fun _ _ h=>.inl h⟩
theorem Grows.refl (g:Gh) (w:World):Grows g g w w :=
 ⟨.refl g,fun _ h=>h,.refl _ w,fun _ _ _ h=>.inl h,fun _ _ h=>.inl h⟩
theorem Grows.alloc (g:Gh) (w:World) (o:Go.Obj):Grows g g w (w.alloc o) :=
 ⟨.refl g,fun _ h=>h,⟨by simp,fun b hb _=>a8K w o b hb,rfl,rfl,rfl⟩,fun _ _ _ h=>.inl h,fun _ _ h=>.inl h⟩
/-! ### Slots -/
theorem a7U (dst:Option Nat) (v:V) (t:List (Nat × V)) (i:Nat):get (put1 dst v t) i=if dst=some i then v else get t i:=by
 cases dst with
 | none=>simp [put1]
 | some d=>simp only [put1,get,Option.some.injEq]
theorem a6Q (a:Act) (dst:Option Nat) (x:Value) (i:Nat) (hd:∀ d,dst=some d->d<a.tmps.size) :
 (a.put dst x).tmps.getD i undef=if dst=some i then x else a.tmps.getD i undef:=by
 cases dst with
 | none=>simp [Act.put]
 | some d =>
  have:=hd d rfl
  simp only [Act.put,Option.some.injEq]
  by_cases e:d=i
  ·subst e;simp [Array.getD_eq_getD_getElem?,this]
  ·simp [Array.getD_eq_getD_getElem?,e]
theorem size_put (a:Act) (dst:Option Nat) (x:Value):(a.put dst x).tmps.size=a.tmps.size:=by cases dst<;>simp [Act.put]
theorem Rel.put (hR:Rel S G g nt s a w) {dst:Option Nat} {v:V} {x:Value} (hv:RV S g v x) (hd:∀ d,dst=some d->d<nt) :
 Rel S G g nt { t:=put1 dst v s.t,h:=s.h } (a.put dst x) w:=by
 have hd':∀ d,dst=some d->d<a.tmps.size:=fun d e=>by rw [hR.sz];exact hd d e
 have hc:∀ i b,a0S (put1 dst v s.t) (a.put dst x).tmps i b->a0S s.t a.tmps i b:=by
  rintro i b ⟨p,es,l,ad,n,cap,h1,h2,h3⟩
  rw [a7U] at h1
  rw [a6Q a dst x i hd'] at h2
  by_cases e:dst=some i
  ·rw [if_pos e] at h1
   subst h1
   cases hv with
   | sc _ _ h=>exact absurd rfl (h.a2a p es l)
  ·rw [if_neg e] at h1 h2
   exact ⟨p,es,l,ad,n,cap,h1,h2,h3⟩
 refine ⟨hR.hp,by rw [size_put];exact hR.sz,fun i=>?_,fun i i' b c d=>hR.exT i i' b (hc i b c) (hc i' b d),fun i b r j c d=>hR.exTH i b r j (hc i b c) d,
  fun i b r o c e hl=>hR.clT i b r o (hc i b c) e hl⟩
 show RT S g w (get (put1 dst v s.t) i) _
 rw [a7U,a6Q a dst x i hd']
 by_cases e:dst=some i
 ·rw [if_pos e,if_pos e];exact .rv _ _ hv
 ·rw [if_neg e,if_neg e];exact hR.tm i
theorem b7w (t:List (Nat × V)) (i j:Nat):get ((i,(get t i).a0r)::t) j=if i=j then (get t i).a0r else get t j:=by simp only [get]
theorem V.b0T (v:V):v.a0r.a0r=v.a0r:=by
 cases v with
 | sc c =>
  cases c with
  | own p es l=>cases p<;>rfl
  | _=>rfl
 | agg=>rfl
 | tup=>rfl
theorem a7T (l:List Nat):∀ (t:List (Nat × V)) (j:Nat),get (drop l t) j=if j∈l then (get t j).a0r else get t j:=by
 unfold drop
 induction l with
 | nil=>intro t j;simp
 | cons i l ih =>
  intro t j
  simp only [List.foldl_cons]
  rw [ih]
  simp only [b7w,List.mem_cons]
  by_cases hj:j∈l
  ·by_cases hij:i=j
   ·subst hij;simp [hj,V.b0T]
   ·simp [hj,hij]
  ·by_cases hij:i=j
   ·subst hij;simp [hj]
   ·have:¬ (j=i):=fun e=>hij e.symm
    simp [hj,hij,this]
theorem a9H (c:V) (p:Bool) (es:Nat) (l:List (List C)):c.a0r≠.sc (.own p es l):=by
 cases c with
 | sc c =>
  cases c with
  | own q es l=>cases q<;>simp [V.a0r,Pm.a0r]
  | _=>simp [V.a0r,Pm.a0r]
 | agg=>simp [V.a0r]
 | tup=>simp [V.a0r]
theorem Rel.drop (hR:Rel S G g nt s a w) (l:List Nat):Rel S G g nt { t:=drop l s.t,h:=s.h } a w:=by
 have hc:∀ i b,a0S (Pm.drop l s.t) a.tmps i b->a0S s.t a.tmps i b:=by
  rintro i b ⟨p,es,l',ad,n,cap,h1,h2,h3⟩
  rw [a7T] at h1
  split at h1
  ·exact absurd h1 (a9H _ _ _ _)
  ·exact ⟨p,es,l',ad,n,cap,h1,h2,h3⟩
 refine ⟨hR.hp,hR.sz,fun i=>?_,fun i i' b c d=>hR.exT i i' b (hc i b c) (hc i' b d),fun i b r j c d=>hR.exTH i b r j (hc i b c) d,
  fun i b r o c e hl=>hR.clT i b r o (hc i b c) e hl⟩
 show RT S g w (get (Pm.drop l s.t) i) _
 rw [a7T]
 split
 ·exact .rv _ _ (hR.tm i).a0r
 ·exact hR.tm i
theorem a2s (keep:List Nat) (t:List (Nat × V)) (i:Nat):get (restrict keep t) i=if i∈keep then get t i else .sc .top:=by
 unfold restrict
 induction keep with
 | nil=>rfl
 | cons k ks ih =>
  simp only [List.map_cons,get,List.mem_cons]
  by_cases e:k=i
  ·subst e;simp
  ·have:¬ i=k:=fun h=>e h.symm
   simp [e,this,ih]
theorem Rel.restrict (hR:Rel S G g nt s a w) (keep:List Nat):Rel S G g nt { t:=restrict keep s.t,h:=s.h } a w:=by
 have hc:∀ i b,a0S (Pm.restrict keep s.t) a.tmps i b->a0S s.t a.tmps i b:=by
  rintro i b ⟨p,es,l',ad,n,cap,h1,h2,h3⟩
  rw [a2s] at h1
  split at h1
  ·exact ⟨p,es,l',ad,n,cap,h1,h2,h3⟩
  ·cases h1
 refine ⟨hR.hp,hR.sz,fun i=>?_,fun i i' b c d=>hR.exT i i' b (hc i b c) (hc i' b d),fun i b r j c d=>hR.exTH i b r j (hc i b c) d,
  fun i b r o c e hl=>hR.clT i b r o (hc i b c) e hl⟩
 show RT S g w (get (Pm.restrict keep s.t) i) _
 rw [a2s]
 split
 ·exact hR.tm i
 ·exact .rv _ _ (.top _)
theorem Rel.b4T (hR:Rel S G g nt s a w) {t:List (Nat × V)} (ht:∀ i,get t i=get s.t i\/RV S g (get t i) (a.tmps.getD i undef)):Rel S G g nt { t:=t,h:=s.h } a w:=by
 have hc:∀ i b,a0S t a.tmps i b->a0S s.t a.tmps i b:=by
  rintro i b ⟨p,es,l',ad,n,cap,h1,h2,h3⟩
  rcases ht i with e|e
  ·rw [e] at h1;exact ⟨p,es,l',ad,n,cap,h1,h2,h3⟩
  ·rw [h1] at e
   cases e with
   | sc _ _ h=>exact absurd rfl (h.a2a p es l')
 refine ⟨hR.hp,hR.sz,fun i=>?_,fun i i' b c d=>hR.exT i i' b (hc i b c) (hc i' b d),fun i b r j c d=>hR.exTH i b r j (hc i b c) d,
  fun i b r o c e hl=>hR.clT i b r o (hc i b c) e hl⟩
 rcases ht i with e|e
 ·show RT S g w (get t i) _
  rw [e];exact hR.tm i
 ·exact .rv _ _ e
end
end Go.Pm
namespace Go.Pm
section
variable {S:Seat} {G:List Nat} {g g':Gh} {nt:Nat} {s:St} {a:Act} {w w':World} {h:List Obj}
theorem a0M (hR:Rel S G g nt s a w) {x:Rand} {x':Operand} (hm:MR S G x x'):RV S g (rd S.Γ s.t x) (a.eval x'):=by
 cases hm with
 | t i=>exact (hR.tm i).a0r
 | k v x h=>exact h.rv
 | f id=>exact .sc _ _ (.fn id [] [] [] [] [] [] rfl rfl (fun j c v a b=>by simp at a) rfl (fun j c v a b=>by simp at a))
 | g id h=>exact .sc _ _ (hR.hp.gl id h)
theorem b6Q (hR:Rel S G g nt s a w) {x:Rand} {x':Operand} (hm:MT S G x x'):RT S g w (rd S.Γ s.t x) (a.eval x'):=by
 cases hm with
 | r x x' h=>exact .rv _ _ (a0M hR h)
 | tk i=>exact hR.tm i
theorem RV.a3J {r off:Nat} {x:Value} (hv:RV S g (.sc (.ptr r off)) x):g.A r/\x=.pointer (some ⟨g.σ r,off,none⟩):=by
 cases hv with
 | sc _ _ h=>cases h with|ptr r off hA=>exact ⟨hA,rfl⟩
theorem RV.a8W {c:C} {x:Value} (hv:RV S g (.sc c) x) (hc:c≠.top):RC S g c x:=by
 cases hv with
 | top=>exact absurd rfl hc
 | sc _ _ h=>exact h
theorem RV.a2W {k:IntKind} {n:Int} {x:Value} (hv:RV S g (.sc (.int k n)) x):x=.int k n:=by
 cases hv with
 | sc _ _ h=>cases h with|int=>rfl
theorem RV.a5S {b:Bool} {x:Value} (hv:RV S g (.sc (.bool b)) x):x=.bool b:=by
 cases hv with
 | sc _ _ h=>cases h with|bool=>rfl
theorem RV.a5t {b:ByteArray} {x:Value} (hv:RV S g (.sc (.str b)) x):x=.string b:=by
 cases hv with
 | sc _ _ h=>cases h with|str=>rfl
theorem RV.a2T {cs:List C} {x:Value} (hv:RV S g (.agg cs) x):∃ vals,x=.agg vals/\cs.length=vals.size/\∀ (j:Nat) c v,cs[j]?=some c->vals[j]?=some v->RC S g c v:=by
 cases hv with
 | agg _ vals hs h=>exact ⟨vals,rfl,hs,h⟩
theorem b1a {cs:List C} {off:Nat} {x:Value} (hv:RV S g (.sc (.eptr cs off)) x) :
 ∃ b o,x=.pointer (some ⟨b,o+off,none⟩)/\C.a0v cs=true/\∀ (j:Nat) c,cs[j]?=some c->∃ y,g.M b (o+j)=some y/\RC S g c y:=by
 cases hv with
 | sc _ _ h =>
  cases h with
  | eptr _ _ b o vals hp hM hr=>exact ⟨b,o,rfl,hp,fun j c hj=>⟨vals j,hM j (List.getElem?_eq_some_iff.1 hj).1,hr j c hj⟩⟩
theorem a9U {es:Nat} {l:List (List C)} {v:V} {x:Value} (he:elems es v=some l) (hv:RV S g v x) :
 (l=[]/\x=.slice none 0 0)\/∃ b off cap,x=.slice (some ⟨b,off,none⟩) l.length cap/\l.length<=cap/\(∀ (i:Nat) e,l[i]?=some e->e.length=es/\C.a0v e=true) ∧
  ∀ (i:Nat) e (j:Nat) c,l[i]?=some e->e[j]?=some c->∃ y,g.M b (off+i*es+j)=some y/\RC S g c y:=by
 unfold elems at he
 split at he
 ·rename_i k es' l'
  split at he
  ·rename_i e
   subst e
   simp only [Option.some.injEq] at he
   subst he
   cases hv with
   | sc _ _ h =>
    cases h with
    | slNil=>exact .inl ⟨rfl,rfl⟩
    | sl k es l b off cap vals hk hf hc hl hp hM hr =>
     exact .inr ⟨b,off,cap,rfl,hc,fun i e hi=>⟨hl i e hi,hp i e hi⟩,fun i e j c hi hj=>⟨vals i j,hM i e j hi (by rw [← hl i e hi];exact (List.getElem?_eq_some_iff.1 hj).1),hr i e j c hi hj⟩⟩
  ·cases he
 ·rename_i es' l'
  cases hv with
  | sc _ _ h=>exact absurd rfl (h.a2a _ _ _)
 ·cases he
theorem a6i:∀ (n:Nat) (cs:List C) (off:Nat) (l:List C),a0R cs off n=some l->l.length=n/\∀ j,j<n->l[j]?=cs[off+j]?
 | 0,cs,off,l,e=>by simp only [a0R,Option.some.injEq] at e;subst e;exact ⟨rfl,fun j hj=>by omega⟩
 | n+1,cs,off,l,e=>by
  simp only [a0R] at e
  split at e
  ·rename_i c hc
   simp only [Option.map_eq_some_iff] at e
   obtain ⟨r,hr,rfl⟩:=e
   obtain ⟨h1,h2⟩:=a6i n cs (off+1) r hr
   refine ⟨by simp [h1],fun j hj=>?_⟩
   cases j with
   | zero=>simp [hc]
   | succ j=>simp only [List.getElem?_cons_succ];rw [h2 j (by omega)];congr 1;omega
  ·cases e
theorem a5h {P:Program} {t:TypeId} {d:TypeDesc} (h:P.underlying t=some d) (w:World):(isAgg t).run P w=.ok (a5C d) w:=by
 cases d<;>simp [isAgg,run_underlying h,a5C]
theorem a1u {P:Program} {t:TypeId} {i:TypeInfo} (h:P.info? t=some i) (w:World):(sizeOf t).run P w=.ok i.size w:=by
 simp [sizeOf,typeInfo,h]
theorem b9y {P:Program} {t:TypeId} {i:TypeInfo} (h:P.info? t=some i) (w:World):(typeInfo t).run P w=.ok i w:=by
 simp [typeInfo,h]
theorem a3B {P:Program} {t:TypeId} {i:TypeInfo} {z:Value} (h:P.info? t=some i) (hz:i.zero=some z) (w:World):(zeroValue t).run P w=.ok z w:=by
 simp [zeroValue,typeInfo,h,hz]
theorem a9m {cs:List C} {b o off:Nat} {n:Option Nat} {t:TypeId} {v:V} (hs:TSh S.P t n)
 (hc:∀ (j:Nat) c,cs[j]?=some c->∃ y,w.cell? ⟨b,o+j,none⟩=some y/\RO S g w c y) (e:a1t cs off n=some v) :
 ∃ y,(loadVar t ⟨b,o+off,none⟩).run S.P w=.ok y w/\RV S g v y:=by
 cases n with
 | none =>
  obtain ⟨d,hd,ha⟩:=hs
  simp only [a1t,Option.map_eq_some_iff] at e
  obtain ⟨c,hj,rfl⟩:=e
  obtain ⟨y,hy,hr⟩:=hc off c hj
  exact ⟨y,by simp [loadVar,a5h hd,ha,hy],.sc _ _ hr.a0r⟩
 | some k =>
  obtain ⟨d,i,hd,ha,hi,hk⟩:=hs
  simp only [a1t,Option.map_eq_some_iff] at e
  obtain ⟨l,hl,rfl⟩:=e
  obtain ⟨h1,h2⟩:=a6i k cs off l hl
  have hall:∀ j,j<k->∃ y,w.cell? ⟨b,o+off+j,none⟩=some y/\∃ c,l[j]?=some c/\RO S g w c y:=fun j hj=>by
   have hj':j<l.length:=by omega
   have e1:=h2 j hj
   rw [List.getElem?_eq_getElem hj'] at e1
   obtain ⟨y,hy,hr⟩:=hc (off+j) l[j] e1.symm
   exact ⟨y,by rw [Nat.add_assoc];exact hy,l[j],List.getElem?_eq_getElem hj',hr⟩
  let f:Nat->Value:=fun j=>(w.cell? ⟨b,o+off+j,none⟩).getD undef
  have hrun:=run_loadCells (P:=S.P) w ⟨b,o+off,none⟩ k f (fun j hj=>by
   obtain ⟨y,hy,_⟩:=hall j hj
   rw [Addr.a2h];simp [f,hy])
  refine ⟨.agg ((List.range k).map f).toArray,by simp [loadVar,a5h hd,ha,a1u hi,hk,hrun],.agg _ _ (by simp [h1]) fun j c x hc' hx=>?_⟩
  have hj:j<k:=by
   have:=(List.getElem?_eq_some_iff.1 hc').1
   simp at this;omega
  obtain ⟨y,hy,c0,hc0,hr⟩:=hall j hj
  simp only [List.getElem?_map,hc0,Option.map_some,Option.some.injEq] at hc'
  subst hc'
  simp [hj,f,hy] at hx
  subst hx
  exact hr.a0r
theorem b2n {cs:List C} {vals:Array Value} {off:Nat} {n:Option Nat} {t:TypeId} {v:V} (hs:TSh S.P t n) (hlen:cs.length=vals.size)
 (hc:∀ (j:Nat) c x,cs[j]?=some c->vals[j]?=some x->RC S g c x) (e:a1t cs off n=some v) :
 ∃ y,(part t vals off).run S.P w=.ok y w/\RV S g v y:=by
 have get:∀ (j:Nat) c,cs[j]?=some c->∃ y,vals[j]?=some y/\RC S g c y:=fun j c hj=>by
  have:j<vals.size:=by rw [← hlen];exact (List.getElem?_eq_some_iff.1 hj).1
  exact ⟨vals[j],Array.getElem?_eq_getElem this,hc j c _ hj (Array.getElem?_eq_getElem this)⟩
 cases n with
 | none =>
  obtain ⟨d,hd,ha⟩:=hs
  simp only [a1t,Option.map_eq_some_iff] at e
  obtain ⟨c,hj,rfl⟩:=e
  obtain ⟨y,hy,hr⟩:=get off c hj
  exact ⟨y,by simp [part,a5h hd,ha,hy],.sc _ _ (by rw [hr.a6Y];exact hr)⟩
 | some k =>
  obtain ⟨d,i,hd,ha,hi,hk⟩:=hs
  simp only [a1t,Option.map_eq_some_iff] at e
  obtain ⟨l,hl,rfl⟩:=e
  obtain ⟨h1,h2⟩:=a6i k cs off l hl
  have hle:k=0\/off+k<=vals.size:=by
   by_cases hk0:k=0
   ·exact .inl hk0
   ·right
    have e1:=h2 (k - 1) (by omega)
    rw [List.getElem?_eq_getElem (by omega)] at e1
    have:=(List.getElem?_eq_some_iff.1 e1.symm).1
    omega
  refine ⟨.agg (vals.extract off (off+k)),by simp [part,a5h hd,ha,a1u hi,hk],.agg _ _ (by simp [h1];omega) fun j c x hc' hx=>?_⟩
  have hj:j<k:=by
   have:=(List.getElem?_eq_some_iff.1 hc').1
   simp at this;omega
  have e1:=h2 j hj
  simp only [List.getElem?_map,Option.map_eq_some_iff] at hc'
  obtain ⟨c0,hc0,rfl⟩:=hc'
  rw [hc0] at e1
  obtain ⟨y,hy,hr⟩:=get (off+j) c0 e1.symm
  rw [hr.a6Y]
  rw [Array.getElem?_extract] at hx
  split at hx
  ·rw [hy] at hx;cases hx;exact hr
  ·cases hx
def Looks (S:Seat) (g:Gh) (a:Act) (w:World) (o:Go.Op) (v:V):Prop :=
 ∀ o':Go.Oper,o'.op=o->∃ x,(execOp a.eval o').run S.P w=.ok (.value x) w/\RV S g v x
variable {base:Nat} {v:V} {ws:List (Nat × Obj)}
theorem c1i (hR:Rel S G g nt s a w) {c x y:Rand} {c' x' y':Operand} (h1:MR S G c c') (h2:MR S G x x') (h3:MR S G y y')
 (e:eff base h (rd S.Γ s.t) (.pick c x y)=some (v,ws)):ws=[]/\Looks S g a w (.pick c' x' y') v:=by
 have hc:=a0M hR h1
 simp only [eff] at e
 split at e
 ·rename_i b
  simp only [Option.some.injEq,Prod.mk.injEq] at e
  obtain ⟨rfl,rfl⟩:=e
  rw [b] at hc
  exact ⟨rfl,fun o ho=>⟨_,by simp [execOp,ho,hc.a5S,asBool],a0M hR h2⟩⟩
 ·rename_i b
  simp only [Option.some.injEq,Prod.mk.injEq] at e
  obtain ⟨rfl,rfl⟩:=e
  rw [b] at hc
  exact ⟨rfl,fun o ho=>⟨_,by simp [execOp,ho,hc.a5S,asBool],a0M hR h3⟩⟩
 ·cases e
theorem c0Y (hR:Rel S G g nt s a w) {n:Option Nat} {x:Rand} {x':Operand} {t:TypeId} (h1:MR S G x x') (hs:TSh S.P t n)
 (e:eff base s.h (rd S.Γ s.t) (.load n x)=some (v,ws)):ws=[]/\Looks S g a w (.load t x') v:=by
 have hx:=a0M hR h1
 simp only [eff] at e
 split at e
 ·rename_i p off hp
  rw [hp] at hx
  obtain ⟨hA,hx⟩:=hx.a3J
  split at e
  ·rename_i cs hcs
   simp only [Option.map_eq_some_iff,Prod.mk.injEq] at e
   obtain ⟨v',hv,rfl,rfl⟩:=e
   obtain ⟨vals,elem,hb,hs',hro⟩:=hR.hp.ob p _ hcs
   obtain ⟨y,hy,hrv⟩:=a9m (w:=w) (g:=g) (b:=g.σ p) (o:=0) hs (fun j c hj=>by
    have:j<vals.size:=Nat.lt_of_lt_of_le (List.getElem?_eq_some_iff.1 hj).1 hs'
    exact ⟨vals[j],by rw [Nat.zero_add,cell_of_heap hb,Array.getElem?_eq_getElem this],hro j c _ hj (Array.getElem?_eq_getElem this)⟩) hv
   rw [Nat.zero_add] at hy
   exact ⟨rfl,fun o ho=>⟨y,by simp [execOp,ho,hx,Instr.loadAt,Instr.sureAddr,hy],hrv⟩⟩
  ·cases e
 ·rename_i cs off hp
  rw [hp] at hx
  obtain ⟨b,o,rfl',hpure,hM⟩:=b1a hx
  simp only [Option.map_eq_some_iff,Prod.mk.injEq] at e
  obtain ⟨v',hv,rfl,rfl⟩:=e
  obtain ⟨y,hy,hrv⟩:=a9m (w:=w) (g:=g) (b:=b) (o:=o) hs (fun j c hj=>by
   obtain ⟨y,hy,hr⟩:=hM j c hj
   exact ⟨y,hR.hp.im _ _ _ hy,.rc _ _ hr⟩) hv
  exact ⟨rfl,fun o' ho=>⟨y,by simp [execOp,ho,rfl',Instr.loadAt,Instr.sureAddr,hy],hrv⟩⟩
 ·cases e
theorem c5G (hR:Rel S G g nt s a w) {op:UnOp} {x:Rand} {x':Operand} {t:TypeId} (h1:MR S G x x')
 (e:eff base h (rd S.Γ s.t) (.un op x)=some (v,ws)):ws=[]/\Looks S g a w (.unOp op t x') v:=by
 have hx:=a0M hR h1
 simp only [eff,one,Option.map_eq_some_iff,Prod.mk.injEq] at e
 obtain ⟨c,hc,rfl,rfl⟩:=e
 unfold un at hc
 split at hc
 ·rename_i k n hp
  rw [hp] at hx
  cases op<;>simp only [Option.some.injEq,reduceCtorEq] at hc
  subst hc
  exact ⟨rfl,fun o ho=>⟨_,by simp [execOp,ho,hx.a2W,Op.unary,Op.intArith],.sc _ _ (.int _ _)⟩⟩
 ·rename_i b hp
  rw [hp] at hx
  cases op<;>simp only [Option.some.injEq,reduceCtorEq] at hc
  subst hc
  exact ⟨rfl,fun o ho=>⟨_,by simp [execOp,ho,hx.a5S,Op.unary],.sc _ _ (.bool _)⟩⟩
 ·cases hc
theorem c0K (hR:Rel S G g nt s a w) {k:IntKind} {x:Rand} {x':Operand} {src dst:TypeId} {d:TypeDesc} (h1:MR S G x x')
 (hd:S.P.underlying dst=some (.int k)) (hs:S.P.underlying src=some d)
 (e:eff base h (rd S.Γ s.t) (.conv k x)=some (v,ws)):ws=[]/\Looks S g a w (.convert src dst x') v:=by
 have hx:=a0M hR h1
 simp only [eff] at e
 split at e
 ·rename_i k' n hp
  rw [hp] at hx
  simp only [Option.some.injEq,Prod.mk.injEq] at e
  obtain ⟨rfl,rfl⟩:=e
  exact ⟨rfl,fun o ho=>⟨_,by simp [execOp,ho,hx.a2W,convert,run_underlying hs,run_underlying hd,Conv.intToInt],.sc _ _ (.int _ _)⟩⟩
 ·cases e
theorem b7l {op:BinOp} {k:IntKind} {x y:Int} {c:C} {t:TypeId} (hc:arith op k x y=some c) :
    ∃ y',(binOp op t (.int k x) (.int k y)).run S.P w=.ok y' w/\RC S g c y':=by
  cases op<;>simp only [arith,Option.some.injEq,reduceCtorEq] at hc <;>
    first
      | (subst hc;refine ⟨.int k _,?_,.int _ _⟩;simp only [binOp,ne_eq,not_true_eq_false,if_false,Op.intArith,Op.intBits,a5l];rfl)
      | (subst hc;refine ⟨.bool _,?_,.bool _⟩;simp only [binOp,ne_eq,not_true_eq_false,if_false,Op.intCmp];rfl)
      | (split at hc
         · cases hc
         · rename_i hy
           simp only [Option.some.injEq] at hc
           subst hc
           refine ⟨.int k _,?_,.int _ _⟩
           simp only [binOp,ne_eq,not_true_eq_false,if_false,Op.intDiv,if_neg hy]
           rfl)
theorem c1S (hR:Rel S G g nt s a w) {op:BinOp} {x y:Rand} {x' y':Operand} {t t2:TypeId} (h1:MR S G x x') (h2:MR S G y y')
 (e:eff base h (rd S.Γ s.t) (.bin op x y)=some (v,ws)):ws=[]/\Looks S g a w (.binOp op t x' y' t2) v:=by
 have hx:=a0M hR h1
 have hy:=a0M hR h2
 simp only [eff,one,Option.map_eq_some_iff,Prod.mk.injEq] at e
 obtain ⟨c,hc,rfl,rfl⟩:=e
 refine ⟨rfl,fun o ho=>?_⟩
 unfold bin at hc
 split at hc
 ·rename_i k n k' m hp hq
  rw [hp] at hx
  rw [hq] at hy
  have hg:∀ w,(eqGuard op t x' y' (.int k n) (.int k' m)).run S.P w=.ok () w:=fun w=>by
   cases op<;>simp [eqGuard]
  split at hc
  ·unfold shifted at hc
   split at hc
   ·cases hc
   ·rename_i hneg
    simp only [Option.some.injEq] at hc
    subst hc
    exact ⟨_,by simp [execOp,ho,hx.a2W,hy.a2W,hg,binOp,Op.shift,hneg],.sc _ _ (.int _ _)⟩
  ·unfold shifted at hc
   split at hc
   ·cases hc
   ·rename_i hneg
    simp only [Option.some.injEq] at hc
    subst hc
    exact ⟨_,by simp [execOp,ho,hx.a2W,hy.a2W,hg,binOp,Op.shift,hneg],.sc _ _ (.int _ _)⟩
  ·split at hc
   ·rename_i hk
    subst hk
    obtain ⟨z,hz,hr⟩:=b7l (S:=S) (g:=g) (w:=w) (t:=t) hc
    exact ⟨z,by simp [execOp,ho,hx.a2W,hy.a2W,hg,hz],.sc _ _ hr⟩
   ·cases hc
 ·rename_i p q hp hq
  rw [hp] at hx
  rw [hq] at hy
  have hg:∀ w,(eqGuard op t x' y' (.string p) (.string q)).run S.P w=.ok () w:=fun w=>by
   cases op<;>simp [eqGuard]
  unfold c0r at hc
  split at hc
  ·split at hc
   ·rename_i hle
    simp only [Option.some.injEq] at hc
    subst hc
    have hle':(p.size:Int)+(q.size:Int)<=9223372036854775807:=by
     unfold room at hle
     omega
    exact ⟨_,by simp [execOp,ho,hx.a5t,hy.a5t,hg,binOp,Op.stringOp,hle'],.sc _ _ (.str _)⟩
   ·cases hc
  ·simp only [Option.some.injEq] at hc
   subst hc
   exact ⟨_,by simp [execOp,ho,hx.a5t,hy.a5t,hg,binOp,Op.stringOp],.sc _ _ (.bool _)⟩
  ·simp only [Option.some.injEq] at hc
   subst hc
   exact ⟨_,by simp [execOp,ho,hx.a5t,hy.a5t,hg,binOp,Op.stringOp],.sc _ _ (.bool _)⟩
  ·cases hc
 ·cases hc
end
end Go.Pm
namespace Go.Pm
section
variable {S:Seat} {G:List Nat} {g g':Gh} {nt:Nat} {s:St} {a:Act} {w w':World} {h:List Obj} {base:Nat} {v:V} {ws:List (Nat × Obj)}
theorem b8P (hR:Rel S G g nt s a w) {off:Nat} {x:Rand} {x':Operand} {t:TypeId} {i:Nat} {fs:Array Field} {f:Field} (h1:MR S G x x')
 (hu:S.P.underlying t=some (.struct fs)) (hf:fs[i]?=some f) (ho:f.offset=off) (hs:∃ i,S.P.info? f.type=some i/\i.size≠0)
 (e:eff base h (rd S.Γ s.t) (.faddr off x)=some (v,ws)):ws=[]/\Looks S g a w (.fieldAddr t x' i) v:=by
 have hx:=a0M hR h1
 obtain ⟨fi,hfi,hsz⟩:=hs
 simp only [eff] at e
 split at e
 ·rename_i p o hp
  rw [hp] at hx
  obtain ⟨hA,hx⟩:=hx.a3J
  simp only [Option.some.injEq,Prod.mk.injEq] at e
  obtain ⟨rfl,rfl⟩:=e
  exact ⟨rfl,fun o' ho'=>⟨_,by simp [execOp,ho',hx,Instr.fieldAt,run_underlying hu,hf,Instr.sureAddr,fieldPlace,a1u hfi,hsz,ho,Addr.a2h],.sc _ _ (.ptr _ _ hA)⟩⟩
 ·rename_i cs o hp
  rw [hp] at hx
  simp only [Option.some.injEq,Prod.mk.injEq] at e
  obtain ⟨rfl,rfl⟩:=e
  cases hx with
  | sc _ _ hx =>
   revert hx
   generalize hav:a.eval x'=av
   intro hx
   cases hx with
   | eptr _ _ b oo vals hpu hM hr =>
    exact ⟨rfl,fun o' ho'=>⟨.pointer (some ⟨b,oo+(o+off),none⟩),by simp [execOp,ho',hav,Instr.fieldAt,run_underlying hu,hf,Instr.sureAddr,fieldPlace,a1u hfi,hsz,ho,Addr.a2h,Nat.add_assoc],
     .sc _ _ (.eptr cs (o+off) b oo vals hpu hM hr)⟩⟩
 ·cases e
theorem b8Q (hR:Rel S G g nt s a w) {off:Nat} {n:Option Nat} {x:Rand} {x':Operand} {t:TypeId} {i:Nat} {fs:Array Field} {f:Field} (h1:MR S G x x')
 (hu:S.P.underlying t=some (.struct fs)) (hf:fs[i]?=some f) (ho:f.offset=off) (hs:TSh S.P f.type n)
 (e:eff base h (rd S.Γ s.t) (.field off n x)=some (v,ws)):ws=[]/\Looks S g a w (.field t x' i) v:=by
 have hx:=a0M hR h1
 simp only [eff] at e
 split at e
 ·rename_i cs hp
  rw [hp] at hx
  obtain ⟨vals,hx,hsz,hc⟩:=hx.a2T
  simp only [Option.map_eq_some_iff,Prod.mk.injEq] at e
  obtain ⟨v',hv,rfl,rfl⟩:=e
  obtain ⟨y,hy,hrv⟩:=b2n (S:=S) (w:=w) hs hsz hc hv
  exact ⟨rfl,fun o' ho'=>⟨y,by simp [execOp,ho',hx,Instr.field,run_underlying hu,hf,asAgg,ho,hy],hrv⟩⟩
 ·cases e
theorem a7o {len:Nat} {v:V} {x:Value} {j:Nat} (e:place len v=some j) (hv:RV S g v x):∃ k n,x=.int k n/\0<=n/\n<(len:Int)/\n.toNat=j:=by
 unfold place at e
 split at e
 ·rename_i k n
  split at e
  ·rename_i hn
   simp only [Option.some.injEq] at e
   exact ⟨k,n,hv.a2W,hn.1,hn.2,e⟩
  ·cases e
 ·cases e
theorem c1d {l:List (List C)} {v:V} {x:Value} {c:List C} (e:nth l v=some c) (hv:RV S g v x):∃ k n,x=.int k n/\0<=n/\n<(l.length:Int)/\l[n.toNat]?=some c:=by
 unfold nth at e
 split at e
 ·rename_i k n
  split at e
  ·rename_i hn
   have:=(List.getElem?_eq_some_iff.1 e).1
   exact ⟨k,n,hv.a2W,hn,by omega,e⟩
  ·cases e
 ·cases e
theorem b8Y (hR:Rel S G g nt s a w) {es:Nat} {x i:Rand} {x' i':Operand} {t el:TypeId} (h1:MR S G x x') (h2:MR S G i i')
 (hu:S.P.underlying t=some (.slice el)) (hs:a3o S.P el es)
 (e:eff base h (rd S.Γ s.t) (.iaddr es x i)=some (v,ws)):ws=[]/\Looks S g a w (.indexAddr t x' i') v:=by
 have hx:=a0M hR h1
 have hi:=a0M hR h2
 obtain ⟨fi,hfi,hsz⟩:=hs
 simp only [eff] at e
 split at e
 ·rename_i p off len cap es' hp
  rw [hp] at hx
  split at e
  ·cases e
  ·rename_i hes
   simp only [Option.map_eq_some_iff,Prod.mk.injEq] at e
   obtain ⟨j,hj,rfl,rfl⟩:=e
   obtain ⟨k,n,hn,h0,hlt,rfl⟩:=a7o hj hi
   have hes:es'=es:=by simpa using hes
   subst hes
   cases hx with
   | sc _ _ hx =>
    revert hx
    generalize hav:a.eval x'=av
    intro hx
    cases hx with
    | msl _ _ _ _ _ _ hA hlen _ =>
     refine ⟨rfl,fun o' ho'=>⟨.pointer (some ⟨g.σ p,off+n.toNat*es',none⟩),?_,.sc _ _ (.ptr _ _ hA)⟩⟩
     simp [execOp,ho',hav,hn,Instr.indexAt,asIntOf,run_underlying hu,h0,hlt,a1u hfi,hsz,Addr.a2h]
 ·rename_i hp
  split at e
  ·rename_i l hl
   simp only [Option.map_eq_some_iff,Prod.mk.injEq] at e
   obtain ⟨c,hc,rfl,rfl⟩:=e
   obtain ⟨k,n,hn,h0,hlt,hget⟩:=c1d hc hi
   rcases a9U hl hx with ⟨rfl,_⟩|⟨b,off,cap,hx,hcap,hpu,hM⟩
   ·simp at hget
   ·refine ⟨rfl,fun o' ho'=>⟨.pointer (some ⟨b,off+n.toNat*es+0,none⟩),?_,?_⟩⟩
    ·simp [execOp,ho',hx,hn,Instr.indexAt,asIntOf,run_underlying hu,h0,hlt,a1u hfi,hsz,Addr.a2h]
    ·have hall:∀ j,j<c.length->∃ y,g.M b (off+n.toNat*es+j)=some y/\RC S g (c.getD j .top) y:=fun j hj=>by
      obtain ⟨y,hy,hr⟩:=hM _ _ j c[j] hget (List.getElem?_eq_getElem hj)
      exact ⟨y,hy,by simpa [List.getD_eq_getElem?_getD,List.getElem?_eq_getElem hj] using hr⟩
     refine .sc _ _ (.eptr c 0 b (off+n.toNat*es) (fun j=>(g.M b (off+n.toNat*es+j)).getD undef) (hpu _ _ hget).2 (fun j hj=>?_) (fun j c' hc'=>?_))
     ·obtain ⟨y,hy,_⟩:=hall j hj
      simp [hy]
     ·obtain ⟨y,hy,hr⟩:=hM _ _ j c' hget hc'
      simp only [hy,Option.getD_some];exact hr
  ·cases e
theorem c0V (hR:Rel S G g nt s a w) {len es:Nat} {x i:Rand} {x' i':Operand} {t el:TypeId} (h1:MR S G x x') (h2:MR S G i i')
 (hu:S.P.underlying t=some (.array len el)) (hs:a3o S.P el es)
 (e:eff base h (rd S.Γ s.t) (.iarr len es x i)=some (v,ws)):ws=[]/\Looks S g a w (.indexAddr t x' i') v:=by
 have hx:=a0M hR h1
 have hi:=a0M hR h2
 obtain ⟨fi,hfi,hsz⟩:=hs
 simp only [eff] at e
 split at e
 ·rename_i p o j hp hj
  rw [hp] at hx
  obtain ⟨hA,hx⟩:=hx.a3J
  simp only [Option.some.injEq,Prod.mk.injEq] at e
  obtain ⟨rfl,rfl⟩:=e
  obtain ⟨k,n,hn,h0,hlt,rfl⟩:=a7o hj hi
  exact ⟨rfl,fun o' ho'=>⟨_,by simp [execOp,ho',hx,hn,Instr.indexAt,Instr.sureAddr,asIntOf,run_underlying hu,h0,hlt,a1u hfi,hsz,Addr.a2h],.sc _ _ (.ptr _ _ hA)⟩⟩
 ·rename_i cs o j hp hj
  rw [hp] at hx
  simp only [Option.some.injEq,Prod.mk.injEq] at e
  obtain ⟨rfl,rfl⟩:=e
  obtain ⟨k,n,hn,h0,hlt,rfl⟩:=a7o hj hi
  cases hx with
  | sc _ _ hx =>
   revert hx
   generalize hav:a.eval x'=av
   intro hx
   cases hx with
   | eptr _ _ b oo vals hpu hM hr =>
    exact ⟨rfl,fun o' ho'=>⟨.pointer (some ⟨b,oo+(o+n.toNat*es),none⟩),
     by simp [execOp,ho',hav,hn,Instr.indexAt,Instr.sureAddr,asIntOf,run_underlying hu,h0,hlt,a1u hfi,hsz,Addr.a2h,Nat.add_assoc],.sc _ _ (.eptr cs _ b oo vals hpu hM hr)⟩⟩
 ·cases e
theorem b9b (hR:Rel S G g nt s a w) {len es:Nat} {n:Option Nat} {x i:Rand} {x' i':Operand} {t el:TypeId} (h1:MR S G x x') (h2:MR S G i i')
 (hu:S.P.underlying t=some (.array len el)) (hs:a3o S.P el es) (hn:TSh S.P el n)
 (e:eff base h (rd S.Γ s.t) (.index len es n x i)=some (v,ws)):ws=[]/\Looks S g a w (.index t x' i') v:=by
 have hx:=a0M hR h1
 have hi:=a0M hR h2
 obtain ⟨fi,hfi,hsz⟩:=hs
 simp only [eff] at e
 split at e
 ·rename_i cs j hp hj
  rw [hp] at hx
  obtain ⟨vals,hx,hvs,hc⟩:=hx.a2T
  simp only [Option.map_eq_some_iff,Prod.mk.injEq] at e
  obtain ⟨v',hv,rfl,rfl⟩:=e
  obtain ⟨k,m,hm,h0,hlt,rfl⟩:=a7o hj hi
  obtain ⟨y,hy,hrv⟩:=b2n (S:=S) (w:=w) hn hvs hc hv
  exact ⟨rfl,fun o' ho'=>⟨y,by simp [execOp,ho',hx,hm,Instr.index,asIntOf,run_underlying hu,h0,hlt,a1u hfi,hsz,hy],hrv⟩⟩
 ·cases e
theorem c0W (hR:Rel S G g nt s a w) {x i:Rand} {x' i':Operand} {t:TypeId} (h1:MR S G x x') (h2:MR S G i i') (hu:S.P.underlying t=some .string)
 (e:eff base h (rd S.Γ s.t) (.istr x i)=some (v,ws)):ws=[]/\Looks S g a w (.index t x' i') v:=by
 have hx:=a0M hR h1
 have hi:=a0M hR h2
 simp only [eff] at e
 split at e
 ·rename_i str hp
  rw [hp] at hx
  split at e
  ·rename_i j hj
   simp only [Option.map_eq_some_iff,Prod.mk.injEq] at e
   obtain ⟨b,hb,rfl,rfl⟩:=e
   obtain ⟨k,m,hm,h0,hlt,rfl⟩:=a7o hj hi
   exact ⟨rfl,fun o' ho'=>⟨.int .u8 b.toNat,by simp [execOp,ho',hx.a5t,hm,Instr.index,asIntOf,run_underlying hu,h0,hb],.sc _ _ (.int _ _)⟩⟩
  ·cases e
 ·cases e
theorem c2a (hR:Rel S G g nt s a w) {x:Rand} {x':Operand} {i:Nat} (h1:MR S G x x')
 (e:eff base h (rd S.Γ s.t) (.ext x i)=some (v,ws)):ws=[]/\Looks S g a w (.extract x' i) v:=by
 have hx:=a0M hR h1
 simp only [eff] at e
 split at e
 ·rename_i vs hp
  rw [hp] at hx
  split at e
  ·rename_i v' hv
   simp only [Option.some.injEq,Prod.mk.injEq] at e
   obtain ⟨rfl,rfl⟩:=e
   revert hx
   generalize hav:a.eval x'=av
   intro hx
   cases hx with
   | tup _ ws' hsz hr =>
    have hlt:i<ws'.size:=by rw [← hsz];exact (List.getElem?_eq_some_iff.1 hv).1
    exact ⟨rfl,fun o' ho'=>⟨ws'[i],by simp [execOp,ho',hav,Instr.extract,hlt],hr i _ _ hv (Array.getElem?_eq_getElem hlt)⟩⟩
  ·cases e
 ·cases e
theorem b7s {es:Nat} {l:List (List C)} {k:SK} {x:Value} (hv:RV S g (.sc (.sl k es l)) x):∃ b cap,x=.slice b l.length cap:=by
 cases hv with
 | sc _ _ h=>cases h with
  | slNil=>exact ⟨none,0,rfl⟩
  | sl _ _ _ b off cap _ _ _ _ _ _ _ _=>exact ⟨_,cap,rfl⟩
theorem b8Z {ka va:Bool} {l:List (List C × List C)} {x:Value} (hv:RV S g (.sc (.imap ka va l)) x) :
 (l=[]/\x=.map none)\/∃ r es,x=.map (some r)/\g.N r=some es/\es.size=l.length ∧
  ∀ (i:Nat) e m,l[i]?=some e->es[i]?=some m->KR S g ka e.1 m.key/\KR S g va e.2 m.val/\C.a0v e.1=true/\C.a0v e.2=true:=by
 cases hv with
 | sc _ _ h=>cases h with
  | imapNil=>exact .inl ⟨rfl,rfl⟩
  | imap _ _ _ r es kv vv hN hs hE hL hK hV =>
   refine .inr ⟨r,es,rfl,hN,hs,fun i e m hi hm=>?_⟩
   obtain ⟨m',hm',hk,hv⟩:=hE i e hi
   rw [hm] at hm'
   cases hm'
   obtain ⟨h1,h2,h3,h4,h5,h6⟩:=hL i e hi
   exact ⟨⟨kv i,hk,h1,h3,fun j c x a b=>hK i e j c x hi a b⟩,⟨vv i,hv,h2,h4,fun j c x a b=>hV i e j c x hi a b⟩,h5,h6⟩
theorem c2g (hR:Rel S G g nt s a w) {k:Nat} {x:Rand} {x':Operand} {t:TypeId} (h1:MR S G x x')
 (hu:(k=0/\S.P.underlying t=some .string)\/(k=1/\∃ e,S.P.underlying t=some (.slice e))\/(k=2/\∃ kt e,S.P.underlying t=some (.map kt e)))
 (e:eff base s.h (rd S.Γ s.t) (.len k x)=some (v,ws)):ws=[]/\Looks S g a w (.call { callee:=.builtin .len,args:=#[x'],argTypes:=#[t] }) v:=by
 have hx:=a0M hR h1
 simp only [eff] at e
 split at e
 ·rename_i k' es l hp
  rw [hp] at hx
  simp only [Option.some.injEq,Prod.mk.injEq] at e
  obtain ⟨rfl,rfl⟩:=e
  obtain ⟨hk,_⟩|⟨_,el,hu⟩|⟨hk,_⟩:=hu
  ·simp at hk
  ·obtain ⟨b,cap,hav⟩:=b7s hx
   exact ⟨rfl,fun o' ho'=>⟨_,by simp [execOp,ho',resolve,invoke,builtin,Builtin.len_,run_underlying hu,hav,goInt],.sc _ _ (.int _ _)⟩⟩
  ·simp at hk
 ·rename_i r off n cap es hp
  rw [hp] at hx
  simp only [Option.some.injEq,Prod.mk.injEq] at e
  obtain ⟨rfl,rfl⟩:=e
  obtain ⟨hk,_⟩|⟨_,el,hu⟩|⟨hk,_⟩:=hu
  ·simp at hk
  ·have hav:∃ b cap,a.eval x'=.slice b n cap:=by
    cases hx with
    | sc _ _ hx =>
     revert hx
     generalize a.eval x'=av
     intro hx
     cases hx
     exact ⟨_,_,rfl⟩
   obtain ⟨b,cap,hav⟩:=hav
   exact ⟨rfl,fun o' ho'=>⟨_,by simp [execOp,ho',resolve,invoke,builtin,Builtin.len_,run_underlying hu,hav,goInt],.sc _ _ (.int _ _)⟩⟩
  ·simp at hk
 ·rename_i str hp
  rw [hp] at hx
  simp only [Option.some.injEq,Prod.mk.injEq] at e
  obtain ⟨rfl,rfl⟩:=e
  obtain ⟨_,hu⟩|⟨hk,_⟩|⟨hk,_⟩:=hu
  ·exact ⟨rfl,fun o' ho'=>⟨_,by simp [execOp,ho',resolve,invoke,builtin,Builtin.len_,run_underlying hu,hx.a5t,goInt],.sc _ _ (.int _ _)⟩⟩
  ·simp at hk
  ·simp at hk
 ·rename_i ka va l hp
  rw [hp] at hx
  simp only [Option.some.injEq,Prod.mk.injEq] at e
  obtain ⟨rfl,rfl⟩:=e
  obtain ⟨hk,_⟩|⟨hk,_⟩|⟨_,kt,el,hu⟩:=hu
  ·simp at hk
  ·simp at hk
  ·rcases b8Z hx with ⟨rfl,hav⟩|⟨r,es,hav,hN,hs,_⟩
   ·exact ⟨rfl,fun o' ho'=>⟨_,by simp [execOp,ho',resolve,invoke,builtin,Builtin.len_,run_underlying hu,hav,goInt],.sc _ _ (.int _ _)⟩⟩
   ·obtain ⟨n,hn, -⟩:=hR.hp.mm r es hN
    exact ⟨rfl,fun o' ho'=>⟨_,by simp [execOp,ho',resolve,invoke,builtin,Builtin.len_,run_underlying hu,hav,goInt,hn,hs,getObj,Sem.run],.sc _ _ (.int _ _)⟩⟩
 ·rename_i p hp
  rw [hp] at hx
  split at e
  ·rename_i ka va l hob
   simp only [Option.some.injEq,Prod.mk.injEq] at e
   obtain ⟨rfl,rfl⟩:=e
   obtain ⟨hk,_⟩|⟨hk,_⟩|⟨_,kt,el,hu⟩:=hu
   ·simp at hk
   ·simp at hk
   ·obtain ⟨es,hb,_,hs,_⟩:=hR.hp.ob p _ hob
    have hav:a.eval x'=.map (some (g.σ p)):=by
     cases hx with
     | sc _ _ hx =>
      revert hx
      generalize a.eval x'=av
      intro hx
      cases hx
      rfl
    simp at hs
    exact ⟨rfl,fun o' ho'=>⟨_,by simp [execOp,ho',resolve,invoke,builtin,Builtin.len_,run_underlying hu,hav,goInt,hb,hs,getObj,Sem.run],.sc _ _ (.int _ _)⟩⟩
  ·cases e
 ·cases e
theorem b7K {n:Nat} {x':Operand} {t:TypeId} (hu:(∃ e,S.P.underlying t=some (.array n e))\/(∃ p e,S.P.underlying t=some (.pointer p)/\S.P.underlying p=some (.array n e)))
 (e:eff base h (rd S.Γ s.t) (.lenArr n)=some (v,ws)):ws=[]/\Looks S g a w (.call { callee:=.builtin .len,args:=#[x'],argTypes:=#[t] }) v:=by
 simp only [eff,Option.some.injEq,Prod.mk.injEq] at e
 obtain ⟨rfl,rfl⟩:=e
 refine ⟨rfl,fun o' ho'=>⟨.int .i64 n,?_,.sc _ _ (.int _ _)⟩⟩
 rcases hu with ⟨el,hu⟩|⟨p,el,hu,hp⟩
 ·simp [execOp,ho',resolve,invoke,builtin,Builtin.len_,run_underlying hu,goInt]
 ·simp [execOp,ho',resolve,invoke,builtin,Builtin.len_,run_underlying hu,run_underlying hp,goInt]
theorem b0u:∀ {xs:List Rand} {ys:List Operand},MRs S G xs ys->xs.length=ys.length
 | [],[],_=>rfl
 | _::xs,_::ys,h=>by simp [b0u h.2]
 | [],_::_,h=>h.elim
 | _::_,[],h=>h.elim
theorem b1r (hR:Rel S G g nt s a w):∀ {xs:List Rand} {ys:List Operand},MRs S G xs ys->∀ (j:Nat) x y,xs[j]?=some x->ys[j]?=some y->RV S g (rd S.Γ s.t x) (a.eval y)
 | [],[],_,j,x,y,hx,_=>by simp at hx
 | p::xs,q::ys,h,j,x,y,hx,hy=>by
  cases j with
  | zero=>simp at hx hy;subst hx;subst hy;exact a0M hR h.1
  | succ j=>exact b1r hR h.2 j x y (by simpa using hx) (by simpa using hy)
 | [],_::_,h,_,_,_,_,_=>h.elim
 | _::_,[],h,_,_,_,_,_=>h.elim
theorem b3m (hR:Rel S G g nt s a w) {k:IntKind}:∀ {xs:List Rand} {ys:List Operand} {n:Int} {c:C},MRs S G xs ys->minOf k n (xs.map (rd S.Γ s.t))=some c →
 ∃ m,c=.int k m/\((ys.map a.eval).foldlM Builtin.min2 (.int k n):Sem Value).run S.P w=.ok (.int k m) w
 | [],[],n,c,_,e=>by simp only [List.map_nil,minOf,Option.some.injEq] at e;exact ⟨n,e.symm,by simp⟩
 | x::xs,y::ys,n,c,h,e=>by
  have hx:=a0M hR h.1
  simp only [List.map_cons] at e
  unfold minOf at e
  split at e
  ·rename_i heq;cases heq
  ·rename_i k' m r heq
   simp only [List.cons.injEq] at heq
   obtain ⟨he,rfl⟩:=heq
   rw [he] at hx
   obtain ⟨m',hc,hrun⟩:=b3m hR h.2 e
   exact ⟨m',hc,by simp [hx.a2W,Builtin.min2,hrun]⟩
  ·cases e
 | [],_::_,_,_,h,_=>h.elim
 | _::_,[],_,_,h,_=>h.elim
theorem b3k (hR:Rel S G g nt s a w) {k:IntKind}:∀ {xs:List Rand} {ys:List Operand} {n:Int} {c:C},MRs S G xs ys->maxOf k n (xs.map (rd S.Γ s.t))=some c →
 ∃ m,c=.int k m/\((ys.map a.eval).foldlM Builtin.max2 (.int k n):Sem Value).run S.P w=.ok (.int k m) w
 | [],[],n,c,_,e=>by simp only [List.map_nil,maxOf,Option.some.injEq] at e;exact ⟨n,e.symm,by simp⟩
 | x::xs,y::ys,n,c,h,e=>by
  have hx:=a0M hR h.1
  simp only [List.map_cons] at e
  unfold maxOf at e
  split at e
  ·rename_i heq;cases heq
  ·rename_i k' m r heq
   simp only [List.cons.injEq] at heq
   obtain ⟨he,rfl⟩:=heq
   rw [he] at hx
   obtain ⟨m',hc,hrun⟩:=b3k hR h.2 e
   exact ⟨m',hc,by simp [hx.a2W,Builtin.max2,hrun]⟩
  ·cases e
 | [],_::_,_,_,h,_=>h.elim
 | _::_,[],_,_,h,_=>h.elim
theorem c2j (hR:Rel S G g nt s a w) {x:Rand} {xs:List Rand} {x':Operand} {xs':List Operand} {ts:Array TypeId} (h1:MR S G x x') (h2:MRs S G xs xs')
 (e:eff base h (rd S.Γ s.t) (.min x xs)=some (v,ws)):ws=[]/\Looks S g a w (.call { callee:=.builtin .min,args:=(x'::xs').toArray,argTypes:=ts }) v:=by
 have hx:=a0M hR h1
 simp only [eff] at e
 split at e
 ·rename_i k n hp
  rw [hp] at hx
  simp only [one,Option.map_eq_some_iff,Prod.mk.injEq] at e
  obtain ⟨c,hc,rfl,rfl⟩:=e
  obtain ⟨m,rfl,hrun⟩:=b3m hR h2 hc
  exact ⟨rfl,fun o' ho'=>⟨_,by simp [execOp,ho',resolve,invoke,builtin,Builtin.min_,hx.a2W,hrun],.sc _ _ (.int _ _)⟩⟩
 ·cases e
theorem c2i (hR:Rel S G g nt s a w) {x:Rand} {xs:List Rand} {x':Operand} {xs':List Operand} {ts:Array TypeId} (h1:MR S G x x') (h2:MRs S G xs xs')
 (e:eff base h (rd S.Γ s.t) (.max x xs)=some (v,ws)):ws=[]/\Looks S g a w (.call { callee:=.builtin .max,args:=(x'::xs').toArray,argTypes:=ts }) v:=by
 have hx:=a0M hR h1
 simp only [eff] at e
 split at e
 ·rename_i k n hp
  rw [hp] at hx
  simp only [one,Option.map_eq_some_iff,Prod.mk.injEq] at e
  obtain ⟨c,hc,rfl,rfl⟩:=e
  obtain ⟨m,rfl,hrun⟩:=b3k hR h2 hc
  exact ⟨rfl,fun o' ho'=>⟨_,by simp [execOp,ho',resolve,invoke,builtin,Builtin.max_,hx.a2W,hrun],.sc _ _ (.int _ _)⟩⟩
 ·cases e
theorem b7W (hR:Rel S G g nt s a w) {x:Rand} {x':Operand} (h1:MR S G x x')
 (e:eff base h (rd S.Γ s.t) (.nilchk x)=some (v,ws)):ws=[]/\Looks S g a w (.nilCheck x') v:=by
 have hx:=a0M hR h1
 simp only [eff] at e
 split at e
 ·rename_i p o hp
  rw [hp] at hx
  simp only [Option.some.injEq,Prod.mk.injEq] at e
  obtain ⟨rfl,rfl⟩:=e
  exact ⟨rfl,fun o' ho'=>⟨_,by simp [execOp,ho',hx.a3J.2],.sc _ _ (.ptr _ _ hx.a3J.1)⟩⟩
 ·rename_i cs o hp
  rw [hp] at hx
  simp only [Option.some.injEq,Prod.mk.injEq] at e
  obtain ⟨rfl,rfl⟩:=e
  obtain ⟨b,oo,hav,_⟩:=b1a hx
  exact ⟨rfl,fun o' ho'=>⟨a.eval x',by simp [execOp,ho',hav],hx⟩⟩
 ·rename_i f sh fc cc hp
  rw [hp] at hx
  simp only [Option.some.injEq,Prod.mk.injEq] at e
  obtain ⟨rfl,rfl⟩:=e
  refine ⟨rfl,fun o' ho'=>⟨a.eval x',?_,hx⟩⟩
  cases hx with
  | sc _ _ hx =>
   revert hx
   generalize hav:a.eval x'=av
   intro hx
   cases hx with
   | fn=>simp [execOp,ho',hav]
   | yield=>simp [execOp,ho',hav]
 ·cases e
end
end Go.Pm
namespace Go.Pm
section
variable {S:Seat} {G:List Nat} {g g':Gh} {nt:Nat} {s:St} {a:Act} {w w':World} {h:List Obj} {base:Nat} {v:V} {ws:List (Nat × Obj)}
theorem a5W {x:V} {x':Value} {top top' r:Nat} {code:BoundsCode} (e:bound x top=some r) (hv:RV S g x x') (ht:top<=top') :
 (Instr.sliceBound x' top' code).run S.P w=.ok r w/\r<=top:=by
 unfold bound at e
 split at e
 ·rename_i k n
  split at e
  ·rename_i hn
   simp only [Option.some.injEq] at e
   subst e
   have h2:n<=(top':Int):=by omega
   exact ⟨by simp [Instr.sliceBound,hv.a2W,asIntOf,hn.1,h2],by omega⟩
  ·cases e
 ·cases e
def RVo (S:Seat) (g:Gh):Option V->Option Value->Prop
 | none,none=>True
 | some x,some y=>RV S g x y
 | _,_=>False
theorem a7f (hR:Rel S G g nt s a w) {x:Option Rand} {y:Option Operand} (h:MRo S G x y):RVo S g (x.map (rd S.Γ s.t)) (y.map a.eval):=by
 cases x<;>cases y<;>first|trivial|exact h.elim|exact a0M hR h
theorem a5m {len capC l b:Nat} {cap m:Option Nat} {lo hi mx:Option V} {lo' hi' mx':Option Value} {sl:Bool}
 (e:bounds len cap lo hi mx=some (l,b,m)) (h1:RVo S g lo lo') (h2:RVo S g hi hi') (h3:RVo S g mx mx') (hc:∀ c,cap=some c->c=capC) (hl:len<=capC) :
 (Instr.sliceBounds sl len capC lo' hi' mx').run S.P w=.ok (l,b,m.getD capC) w/\l<=b/\b<=len/\b<=m.getD capC/\m.getD capC<=capC:=by
 unfold bounds at e
 split at e
 ·cases e
 ·rename_i hmh
  split at e
  ·cases e
  ·rename_i m0 hm0
   split at e
   ·cases e
   ·rename_i h0 hh0
    split at e
    ·cases e
    ·rename_i l0 hl0
     split at e
     ·rename_i hle
      simp only [Option.some.injEq,Prod.mk.injEq] at e
      obtain ⟨rfl,rfl,rfl⟩:=e
      have caple:cap.getD len<=capC:=by
       cases cap with
       | none=>exact hl
       | some c=>have:=hc c rfl;simp [this]
      -- up to
      have M:(match mx' with|some v=>∀ code,(Instr.sliceBound v capC code).run S.P w=.ok (m0.getD capC) w|none=>capC=m0.getD capC)/\m0.getD capC<=capC:=by
       cases mx with
       | none =>
        cases mx' with
        | none =>
         simp only [a9O,Option.some.injEq] at hm0
         subst hm0
         cases cap with
         | none=>exact ⟨rfl,Nat.le_refl _⟩
         | some c=>have:=hc c rfl;subst this;exact ⟨rfl,Nat.le_refl _⟩
        | some _=>exact h3.elim
       | some x =>
        cases mx' with
        | none=>exact h3.elim
        | some y =>
         simp only [a9O,Option.map_eq_some_iff] at hm0
         obtain ⟨r,hr,rfl⟩:=hm0
         exact ⟨fun code=>(a5W (w:=w) (code:=code) hr h3 caple).1,by have:=(a5W (S:=S) (w:=w) (code:=.index) hr h3 caple).2;simp;omega⟩
      have m0le:m0.getD len<=m0.getD capC:=by
       cases m0 with
       | none=>exact hl
       | some c=>simp
      -- to
      have H:(match hi' with|some v=>∀ code,(Instr.sliceBound v (m0.getD capC) code).run S.P w=.ok h0 w|none=>len=h0/\mx'=none)/\h0<=m0.getD capC:=by
       cases hi with
       | none =>
        cases hi' with
        | some _=>exact h2.elim
        | none =>
         simp only [b4b,Option.some.injEq] at hh0
         subst hh0
         cases mx with
         | some _=>simp at hmh
         | none =>
          cases mx' with
          | some _=>exact h3.elim
          | none =>
           refine ⟨⟨rfl,rfl⟩,?_⟩
           simp only [a9O,Option.some.injEq] at hm0
           subst hm0
           cases cap with
           | none=>exact hl
           | some c=>have:=hc c rfl;subst this;exact hl
       | some x =>
        cases hi' with
        | none=>exact h2.elim
        | some y=>exact ⟨fun code=>(a5W (w:=w) (code:=code) hh0 h2 m0le).1,by have:=(a5W (S:=S) (w:=w) (code:=.index) hh0 h2 m0le).2;omega⟩
      -- from
      have L:(match lo' with|some v=>∀ code,(Instr.sliceBound v h0 code).run S.P w=.ok l0 w|none=>l0=0)/\l0<=h0:=by
       cases lo with
       | none =>
        cases lo' with
        | some _=>exact h1.elim
        | none=>simp only [b4c,Option.some.injEq] at hl0;subst hl0;exact ⟨rfl,Nat.zero_le _⟩
       | some x =>
        cases lo' with
        | none=>exact h1.elim
        | some y=>exact ⟨fun code=>(a5W (w:=w) (code:=code) hl0 h1 (Nat.le_refl _)).1,(a5W (S:=S) (w:=w) (code:=.index) hl0 h1 (Nat.le_refl _)).2⟩
      refine ⟨?_,L.2,hle,H.2,M.2⟩
      obtain ⟨M1,_⟩:=M
      obtain ⟨H1,_⟩:=H
      obtain ⟨L1,_⟩:=L
      revert M1 H1
      generalize m0.getD capC=MM
      intro M1 H1
      unfold Instr.sliceBounds
      cases mx' with
      | none =>
       dsimp only at M1
       cases hi' with
       | none =>
        dsimp only at H1
        obtain ⟨H1,_⟩:=H1
        cases lo' with
        | none=>dsimp only at L1;simp only [Sem.run_bind,Sem.run_pure,Result.andThen_ok,L1,H1,M1]
        | some z=>dsimp only at L1;simp only [Sem.run_bind,Sem.run_pure,Result.andThen_ok,L1,H1,M1]
       | some y =>
        dsimp only at H1
        rw [M1]
        cases lo' with
        | none=>dsimp only at L1;subst L1;simp only [Sem.run_bind,Sem.run_pure,Result.andThen_ok,H1]
        | some z=>dsimp only at L1;simp only [Sem.run_bind,Sem.run_pure,Result.andThen_ok,H1,L1]
      | some q =>
       dsimp only at M1
       cases hi' with
       | none=>exact absurd H1.2 (by simp)
       | some y =>
        dsimp only at H1
        cases lo' with
        | none=>dsimp only at L1;subst L1;simp only [Sem.run_bind,Sem.run_pure,Result.andThen_ok,M1,H1]
        | some z=>dsimp only at L1;simp only [Sem.run_bind,Sem.run_pure,Result.andThen_ok,M1,H1,L1]
     ·cases e
end
end Go.Pm
namespace Go.Pm
section
variable {S:Seat} {G:List Nat} {g g':Gh} {nt:Nat} {s:St} {a:Act} {w w':World} {h:List Obj} {base:Nat} {v:V} {ws:List (Nat × Obj)}
theorem a5R {α:Type} (l:List α) (x y i:Nat) (c:α) (e:((l.take y).drop x)[i]?=some c):l[x+i]?=some c:=by
 rw [List.getElem?_drop,List.getElem?_take] at e
 split at e
 ·exact e
 ·cases e
theorem b6U {es:Nat} {x:V} {x':Value} {lo hi mx:Option V} {lo' hi' mx':Option Value} {c:C} {t el:TypeId}
 (e:sliced es x lo hi mx=some c) (hx:RV S g x x') (h1:RVo S g lo lo') (h2:RVo S g hi hi') (h3:RVo S g mx mx')
 (hu:S.P.underlying t=some (.slice el)) (hs:a3o S.P el es):∃ y,(Instr.slice t x' lo' hi' mx').run S.P w=.ok y w/\RC S g c y:=by
 obtain ⟨fi,hfi,hsz⟩:=hs
 unfold sliced at e
 split at e
 ·rename_i k es' l
  split at e
  ·cases e
  ·rename_i hes
   have hes:es'=es:=by simpa using hes
   subst hes
   split at e
   ·rename_i p q m hb
    simp only [Option.some.injEq] at e
    subst e
    cases hx with
    | sc _ _ hx =>
     cases hx with
     | slNil =>
      obtain ⟨hr,hpq,hq,hqm,hmc⟩:=a5m (S:=S) (w:=w) (sl:=true) (capC:=0) hb h1 h2 h3 (fun c hc=>by simpa [capOf] using hc.symm) (Nat.le_refl _)
      simp only [List.length_nil] at hr
      simp at hq
      subst hq
      have hp0:p=0:=by omega
      subst hp0
      have hm0:m.getD 0=0:=by omega
      exact ⟨.slice none 0 0,by simp [Instr.slice,run_underlying hu,hr,a1u hfi,hm0],by simpa [a7p] using RC.slNil es'⟩
     | sl _ _ _ b off cap vals hk hf hc hl hp hM hr =>
      obtain ⟨hrun,hpq,hq,hqm,hmc⟩:=a5m (S:=S) (w:=w) (sl:=true) (capC:=cap) hb h1 h2 h3 (fun c' hc'=>by
       cases k with
       | nil=>exact absurd rfl hk
       | full=>simp [capOf] at hc';have:=hf rfl;omega
       | shared=>simp [capOf] at hc') hc
      have hlen:((l.take q).drop p).length=q - p:=by simp;omega
      have main:∀ off',(off'=off+p*es'\/(l.take q).drop p=[])->RC S g (.sl (a7p k (decide (m=some q))) es' ((l.take q).drop p)) (.slice (some ⟨b,off',none⟩) (q - p) (m.getD cap - p)):=by
       intro off' ho
       rw [← hlen]
       refine .sl _ es' _ b off' _ (fun i j=>vals (p+i) j) ?_ ?_ ?_ (fun i e he=>hl _ e (a5R l p q i e he)) (fun i e he=>hp _ e (a5R l p q i e he)) (fun i e j he hj=>?_) (fun i e j c he hj=>hr _ e j c (a5R l p q i e he) hj)
       ·cases k with
        | nil=>exact absurd rfl hk
        | full=>simp only [a7p];split<;>simp
        | shared=>simp only [a7p];split<;>simp
       ·intro hfull
        have:m=some q:=by
         cases k with
         | nil=>exact absurd rfl hk
         | full=>simpa [a7p] using hfull
         | shared=>simpa [a7p] using hfull
        rw [this,hlen];simp
       ·rw [hlen];omega
       ·rcases ho with rfl|ho
        ·rw [show off+p*es' + i*es' + j=off+(p+i)*es' + j by rw [Nat.add_mul];omega]
         exact hM (p+i) e j (a5R l p q i e he) hj
        ·rw [ho] at he;simp at he
      by_cases hm:m.getD cap=p
      ·refine ⟨.slice (some ⟨b,off,none⟩) (q - p) (m.getD cap - p),by simp [Instr.slice,run_underlying hu,hrun,a1u hfi,hm],main off (.inr ?_)⟩
       apply List.eq_nil_of_length_eq_zero
       rw [hlen];omega
      ·exact ⟨.slice (some ⟨b,off+p*es',none⟩) (q - p) (m.getD cap - p),by simp [Instr.slice,run_underlying hu,hrun,a1u hfi,hm,hsz,Addr.a2h],main _ (.inl rfl)⟩
   ·cases e
 ·rename_i es' l
  cases hx with
  | sc _ _ hx=>exact absurd rfl (hx.a2a _ _ _)
 ·rename_i r off len cap es'
  split at e
  ·cases e
  ·rename_i hes
   have hes:es'=es:=by simpa using hes
   subst hes
   split at e
   ·rename_i p q m hb
    simp only [Option.some.injEq] at e
    subst e
    cases hx with
    | sc _ _ hx =>
     cases hx with
     | msl _ _ _ _ _ cap' hA hlen hcc =>
      obtain ⟨hrun,hpq,hq,hqm,hmc⟩:=a5m (S:=S) (w:=w) (sl:=true) (capC:=cap') hb h1 h2 h3 (fun c' hc'=>by
       split at hc'
       ·cases hc'
       ·simp only [Option.some.injEq] at hc';omega) hlen
      simp only [Option.getD_some] at hrun hqm
      by_cases hm:m=p
      ·refine ⟨.slice (some ⟨g.σ r,off,none⟩) (q - p) (m - p),by simp [Instr.slice,run_underlying hu,hrun,a1u hfi,hm],?_⟩
       rw [if_pos hm];exact .msl _ _ _ _ _ _ hA (by omega) (.inr rfl)
      ·refine ⟨.slice (some ⟨g.σ r,off+p*es',none⟩) (q - p) (m - p),by simp [Instr.slice,run_underlying hu,hrun,a1u hfi,hm,hsz,Addr.a2h],?_⟩
       rw [if_neg hm];exact .msl _ _ _ _ _ _ hA (by omega) (.inr rfl)
   ·rename_i p q hb
    split at e
    ·rename_i hp
     simp only [Option.some.injEq] at e
     subst e
     cases hx with
     | sc _ _ hx =>
      cases hx with
      | msl _ _ _ _ _ cap' hA hlen hcc =>
       obtain ⟨hrun,hpq,hq,hqm,hmc⟩:=a5m (S:=S) (w:=w) (sl:=true) (capC:=cap') hb h1 h2 h3 (fun c' hc'=>by
        split at hc'
        ·cases hc'
        ·simp only [Option.some.injEq] at hc';omega) hlen
       simp only [Option.getD_none] at hrun hqm
       by_cases hm:cap'=p
       ·have hp0:p=0:=by omega
        obtain rfl:p=cap':=hm.symm
        refine ⟨.slice (some ⟨g.σ r,off,none⟩) (q - p) (p - p),by simp [Instr.slice,run_underlying hu,hrun,a1u hfi],?_⟩
        have:=RC.msl (S:=S) (g:=g) r off (q - p) 0 es' (p - p) hA (by omega) (.inl rfl)
        rw [show off+p*es'=off from by rw [hp0];simp]
        exact this
       ·exact ⟨.slice (some ⟨g.σ r,off+p*es',none⟩) (q - p) (cap' - p),by simp [Instr.slice,run_underlying hu,hrun,a1u hfi,hm,hsz,Addr.a2h],.msl _ _ _ _ _ _ hA (by omega) (.inl rfl)⟩
    ·cases e
   ·cases e
 ·cases e
end
end Go.Pm
namespace Go.Pm
section
variable {S:Seat} {G:List Nat} {g g':Gh} {nt:Nat} {s:St} {a:Act} {w w':World} {h:List Obj} {base:Nat} {v:V} {ws:List (Nat × Obj)}
theorem b9F (hR:Rel S G g nt s a w) {es:Nat} {x:Rand} {lo hi mx:Option Rand} {x':Operand} {lo' hi' mx':Option Operand} {t el:TypeId} (h:MR S G x x') (h1:MRo S G lo lo')
 (h2:MRo S G hi hi') (h3:MRo S G mx mx') (hu:S.P.underlying t=some (.slice el)) (hs:a3o S.P el es)
 (e:eff base s.h (rd S.Γ s.t) (.slice es x lo hi mx)=some (v,ws)):ws=[]/\Looks S g a w (.slice t x' lo' hi' mx') v:=by
 simp only [eff,one,Option.map_eq_some_iff,Prod.mk.injEq] at e
 obtain ⟨c,hc,rfl,rfl⟩:=e
 obtain ⟨y,hy,hr⟩:=b6U (w:=w) hc (a0M hR h) (a7f hR h1) (a7f hR h2) (a7f hR h3) hu hs
 exact ⟨rfl,fun o' ho'=>⟨y,by simp [execOp,ho',Instr.sliceAt,run_underlying hu,hy],.sc _ _ hr⟩⟩
theorem b9D (hR:Rel S G g nt s a w) {n es:Nat} {x:Rand} {lo hi mx:Option Rand} {x':Operand} {lo' hi' mx':Option Operand} {t el:TypeId} (h:MR S G x x') (h1:MRo S G lo lo')
 (h2:MRo S G hi hi') (h3:MRo S G mx mx') (hu:S.P.underlying t=some (.array n el)) (hs:a3o S.P el es)
 (e:eff base s.h (rd S.Γ s.t) (.slArr n es x lo hi mx)=some (v,ws)):ws=[]/\Looks S g a w (.slice t x' lo' hi' mx') v:=by
 obtain ⟨fi,hfi,hsz⟩:=hs
 have hx:=a0M hR h
 simp only [eff,one,Option.map_eq_some_iff,Prod.mk.injEq] at e
 obtain ⟨c,hc,rfl,rfl⟩:=e
 unfold a8k at hc
 split at hc
 ·rename_i r off hp
  rw [hp] at hx
  obtain ⟨hA,hx⟩:=hx.a3J
  split at hc
  ·rename_i p q m hb
   simp only [Option.some.injEq] at hc
   subst hc
   obtain ⟨hrun,hpq,hq,hqm,hmc⟩:=a5m (S:=S) (w:=w) (sl:=false) (capC:=n) hb (a7f hR h1) (a7f hR h2) (a7f hR h3) (fun c' hc'=>by simpa using hc'.symm) (Nat.le_refl _)
   refine ⟨rfl,fun o' ho'=>?_⟩
   by_cases hm:m.getD n=p
   ·refine ⟨.slice (some ⟨g.σ r,off,none⟩) (q - p) (m.getD n - p),by simp [execOp,ho',Instr.sliceAt,run_underlying hu,hx,Instr.sureAddr,hrun,a1u hfi,hm],?_⟩
    rw [if_pos hm];exact .sc _ _ (.msl _ _ _ _ _ _ hA (by omega) (.inr rfl))
   ·refine ⟨.slice (some ⟨g.σ r,off+p*es,none⟩) (q - p) (m.getD n - p),by simp [execOp,ho',Instr.sliceAt,run_underlying hu,hx,Instr.sureAddr,hrun,a1u hfi,hm,hsz,Addr.a2h],?_⟩
    rw [if_neg hm];exact .sc _ _ (.msl _ _ _ _ _ _ hA (by omega) (.inr rfl))
  ·cases hc
 ·cases hc
theorem b2p (dd:Nat) {t:TypeId} {d:TypeDesc} {x y:Value} {b:Bool} (hu:S.P.underlying t=some d)
 (hy:(∃ c n m,x=.slice c n m/\y=.slice none 0 0/\(∃ e,d=.slice e)/\b=c.isNone) ∨
  (y=.nilFunc/\(∃ a b c,d=.func a b c)/\((x=.nilFunc/\b=true)\/(∃ f p q,x=.func f p q)/\b=false)) ∨
  (∃ c,x=.pointer c/\y=.pointer none/\(∃ e,d=.pointer e)/\b=c.isNone)) :
 (Op.equalIn (dd+1) t x y).run S.P w=.ok b w:=by
 rcases hy with ⟨c,n,m,rfl,rfl,⟨el,rfl⟩,rfl⟩|⟨rfl,⟨a,b',c,rfl⟩,h⟩|⟨c,rfl,rfl,⟨el,rfl⟩,rfl⟩
 ·cases c<;>simp [Op.equalIn,run_underlying hu]
 ·rcases h with ⟨rfl,rfl⟩|⟨⟨f,p,q,rfl⟩,rfl⟩<;>simp [Op.equalIn,run_underlying hu]
 ·cases c<;>simp [Op.equalIn,run_underlying hu]
theorem a3K {t:TypeId} {d:TypeDesc} {x y:Value} {b:Bool} (hu:S.P.underlying t=some d)
 (hy:(∃ c n m,x=.slice c n m/\y=.slice none 0 0/\(∃ e,d=.slice e)/\b=c.isNone) ∨
  (y=.nilFunc/\(∃ a b c,d=.func a b c)/\((x=.nilFunc/\b=true)\/(∃ f p q,x=.func f p q)/\b=false)) ∨
  (∃ c,x=.pointer c/\y=.pointer none/\(∃ e,d=.pointer e)/\b=c.isNone)) :
 (Op.equal t x y).run S.P w=.ok b w:=b2p 9999 hu hy
theorem b6T {op:BinOp} {neg:Bool} {x' y':Operand} {t:TypeId} {x y:Value} {b:Bool} (hop:op=if neg then .neq else .eql) (hy:y=.slice none 0 0\/y=.nilFunc\/y=.pointer none)
 (hb:(Op.equal t x y).run S.P w=.ok b w):(do eqGuard op t x' y' x y;binOp op t x y:Sem Value).run S.P w=.ok (.bool (neg ^^ b)) w:=by
 have hg:(eqGuard op t x' y' x y).run S.P w=.ok () w:=by
  subst hop
  rcases hy with rfl|rfl|rfl<;>cases neg<;>cases x<;>simp [eqGuard]
 have hbin:binOp op t x y=(do pure (.bool (neg ^^ (← Op.equal t x y)))):=by
  subst hop
  rcases hy with rfl|rfl|rfl<;>cases neg<;>cases x<;>simp [binOp]
 simp [hg,hbin,hb]
theorem b9d (hR:Rel S G g nt s a w) {kd:Nat} {neg:Bool} {x:Rand} {x':Operand} {y:Value} {t t2:TypeId} {d:TypeDesc} (h:MR S G x x') (hu:S.P.underlying t=some d)
 (hy:(kd=0/\y=.slice none 0 0/\∃ e,d=.slice e)\/(kd=1/\y=.nilFunc/\∃ a b c,d=.func a b c)\/(kd=2/\y=.pointer none/\∃ e,d=.pointer e))
 (e:eff base s.h (rd S.Γ s.t) (.isnil kd neg x)=some (v,ws)):ws=[]/\Looks S g a w (.binOp (if neg then .neq else .eql) t x' (.const y) t2) v:=by
 have hx:=a0M hR h
 have fin:∀ b:Bool,(Op.equal t (a.eval x') y).run S.P w=.ok b w->(y=.slice none 0 0\/y=.nilFunc\/y=.pointer none) →
  Looks S g a w (.binOp (if neg then .neq else .eql) t x' (.const y) t2) (.sc (.bool (neg ^^ b))):=by
  intro b hb hy o' ho'
  have ev:a.eval (.const y)=y:=rfl
  have:=b6T (S:=S) (w:=w) (x':=x') (y':=.const y) (neg:=neg) rfl hy hb
  refine ⟨.bool (neg ^^ b),?_,.sc _ _ (.bool _)⟩
  simp only [execOp,ho',ev,Sem.run_bind] at this ⊢
  rw [this];rfl
 simp only [eff] at e
 split at e
 ·rename_i k es l hp
  rw [hp] at hx
  simp only [Option.some.injEq,Prod.mk.injEq] at e
  obtain ⟨rfl,rfl⟩:=e
  rcases hy with ⟨_,rfl,hd⟩|⟨hk,_⟩|⟨hk,_⟩
  ·have hs:∃ b n c,a.eval x'=.slice b n c/\b.isNone=decide (k=.nil):=by
    cases hx with
    | sc _ _ h =>
     revert h
     generalize a.eval x'=av
     intro h
     cases h with
     | slNil=>exact ⟨none,0,0,rfl,by simp⟩
     | sl _ _ _ b off cap _ hk _ _ _ _ _ _=>exact ⟨some _,_,cap,rfl,by simp [hk]⟩
   obtain ⟨b,n,c,hav,hb⟩:=hs
   refine ⟨rfl,fin _ (a3K hu (.inl ⟨b,n,c,hav,rfl,hd,hb.symm⟩)) (by simp)⟩
  ·simp at hk
  ·simp at hk
 ·rename_i hp
  rw [hp] at hx
  simp only [Option.some.injEq,Prod.mk.injEq] at e
  obtain ⟨rfl,rfl⟩:=e
  rcases hy with ⟨hk,_⟩|⟨_,rfl,hd⟩|⟨hk,_⟩
  ·simp at hk
  ·have hav:a.eval x'=.nilFunc:=by
    cases hx with
    | sc _ _ h =>
     revert h
     generalize a.eval x'=av
     intro h
     cases h
     rfl
   refine ⟨rfl,by simpa using fin true (a3K hu (.inr (.inl ⟨rfl,hd,.inl ⟨hav,rfl⟩⟩))) (by simp)⟩
  ·simp at hk
 ·rename_i f sh p q hp
  rw [hp] at hx
  simp only [Option.some.injEq,Prod.mk.injEq] at e
  obtain ⟨rfl,rfl⟩:=e
  rcases hy with ⟨hk,_⟩|⟨_,rfl,hd⟩|⟨hk,_⟩
  ·simp at hk
  ·have hav:∃ f p q,a.eval x'=.func f p q:=by
    cases hx with
    | sc _ _ h =>
     revert h
     generalize a.eval x'=av
     intro h
     cases h<;>exact ⟨_,_,_,rfl⟩
   refine ⟨rfl,by simpa using fin false (a3K hu (.inr (.inl ⟨rfl,hd,.inr ⟨hav,rfl⟩⟩))) (by simp)⟩
  ·simp at hk
 ·rename_i hp
  rw [hp] at hx
  simp only [Option.some.injEq,Prod.mk.injEq] at e
  obtain ⟨rfl,rfl⟩:=e
  rcases hy with ⟨hk,_⟩|⟨hk,_⟩|⟨_,rfl,hd⟩
  ·simp at hk
  ·simp at hk
  ·have hav:a.eval x'=.pointer none:=by
    cases hx with
    | sc _ _ h =>
     revert h
     generalize a.eval x'=av
     intro h
     cases h
     rfl
   refine ⟨rfl,by simpa using fin true (a3K hu (.inr (.inr ⟨none,hav,rfl,hd,rfl⟩))) (by simp)⟩
 ·rename_i p o hp
  rw [hp] at hx
  simp only [Option.some.injEq,Prod.mk.injEq] at e
  obtain ⟨rfl,rfl⟩:=e
  rcases hy with ⟨hk,_⟩|⟨hk,_⟩|⟨_,rfl,hd⟩
  ·simp at hk
  ·simp at hk
  ·refine ⟨rfl,by simpa using fin false (a3K hu (.inr (.inr ⟨_,hx.a3J.2,rfl,hd,rfl⟩))) (by simp)⟩
 ·rename_i cs o hp
  rw [hp] at hx
  simp only [Option.some.injEq,Prod.mk.injEq] at e
  obtain ⟨rfl,rfl⟩:=e
  obtain ⟨b,oo,hav,_⟩:=b1a hx
  rcases hy with ⟨hk,_⟩|⟨hk,_⟩|⟨_,rfl,hd⟩
  ·simp at hk
  ·simp at hk
  ·refine ⟨rfl,by simpa using fin false (a3K hu (.inr (.inr ⟨_,hav,rfl,hd,rfl⟩))) (by simp)⟩
 ·cases e
end
end Go.Pm
namespace Go.Pm
section
variable {S:Seat} {G:List Nat} {g g':Gh} {nt:Nat} {s:St} {a:Act} {w w':World} {h:List Obj} {base:Nat} {v:V} {ws:List (Nat × Obj)}
theorem a6X:∀ {vs:List V} {sh:List (Option Nat)} {xs:List Value},shapes vs=some sh->vs.length=xs.length->(∀ (j:Nat) v x,vs[j]?=some v->xs[j]?=some x->RV S g v x) →
 a2J sh (xs.flatMap fun x=>x.cells.toList)=some xs/\(vs.flatMap V.cells).length=(xs.flatMap fun x=>x.cells.toList).length ∧
  ∀ (j:Nat) c y,(vs.flatMap V.cells)[j]?=some c->(xs.flatMap fun x=>x.cells.toList)[j]?=some y->RC S g c y
 | [],sh,xs,hs,hl,_=>by
  simp only [shapes,Option.some.injEq] at hs
  subst hs
  cases xs with
  | nil=>exact ⟨rfl,rfl,fun j c y a=>by simp at a⟩
  | cons=>simp at hl
 | v::vs,sh,xs,hs,hl,hr=>by
  cases xs with
  | nil=>simp at hl
  | cons x xs =>
   have hx:=hr 0 v x rfl rfl
   have rest:=fun sh' (hs':shapes vs=some sh')=>a6X (xs:=xs) hs' (by simpa using hl) (fun j v x a b=>hr (j+1) v x (by simpa using a) (by simpa using b))
   have join:∀ (p:List C) (q:List Value),p.length=q.length->(∀ (j:Nat) c y,p[j]?=some c->q[j]?=some y->RC S g c y)->∀ (p2:List C) (q2:List Value),p2.length=q2.length->(∀ (j:Nat) c y,p2[j]?=some c->q2[j]?=some y->RC S g c y) →
    (p++p2).length=(q++q2).length/\∀ (j:Nat) c y,(p++p2)[j]?=some c->(q++q2)[j]?=some y->RC S g c y:=by
    intro p q hpq h1 p2 q2 hpq2 h2
    refine ⟨by simp [hpq,hpq2],fun j c y a b=>?_⟩
    by_cases hj:j<p.length
    ·rw [List.getElem?_append_left hj] at a
     rw [List.getElem?_append_left (by omega)] at b
     exact h1 j c y a b
    ·rw [List.getElem?_append_right (by omega)] at a
     rw [List.getElem?_append_right (by omega)] at b
     rw [← hpq] at b
     exact h2 _ c y a b
   cases hx with
   | top=>simp [shapes] at hs
   | sc c _ h =>
    have hc:V.cells (.sc c)=[c]:=by cases c<;>first|rfl|exact absurd rfl h.a8Q|exact absurd rfl (h.a2a _ _ _)
    have hs':(shapes vs).map (none::·)=some sh:=by cases c<;>first|exact hs|exact absurd rfl h.a8Q|exact absurd rfl (h.a2a _ _ _)
    simp only [Option.map_eq_some_iff] at hs'
    obtain ⟨sh',h1,rfl⟩:=hs'
    obtain ⟨r1,r2,r3⟩:=rest sh' h1
    obtain ⟨j1,j2⟩:=join [c] [x] rfl (fun j c' y a b=>by
     cases j with
     | zero=>simp at a b;subst a;subst b;exact h
     | succ j=>simp at a) _ _ r2 r3
    refine ⟨?_,?_,?_⟩
    ·simp [h.cells,a2J,r1]
    ·simpa [List.flatMap_cons,hc,h.cells] using j1
    ·simp only [List.flatMap_cons,hc,h.cells]
     exact j2
   | agg cs vals hsz h =>
    have hs':(shapes vs).map (some cs.length::·)=some sh:=hs
    simp only [Option.map_eq_some_iff] at hs'
    obtain ⟨sh',h1,rfl⟩:=hs'
    obtain ⟨r1,r2,r3⟩:=rest sh' h1
    obtain ⟨j1,j2⟩:=join cs vals.toList (by simp [hsz]) (fun j c' y a b=>h j c' y a (by simpa using b)) _ _ r2 r3
    refine ⟨?_,?_,?_⟩
    ·have hcell:(Value.agg vals).cells=vals:=rfl
     simp only [List.flatMap_cons,hcell,a2J]
     rw [if_pos (by simp [hsz])]
     have e1:(vals.toList++xs.flatMap fun x=>x.cells.toList).drop cs.length=xs.flatMap fun x=>x.cells.toList:=by
      rw [hsz, ← Array.length_toList,List.drop_left]
     have e2:(vals.toList++xs.flatMap fun x=>x.cells.toList).take cs.length=vals.toList:=by
      rw [hsz, ← Array.length_toList,List.take_left]
     rw [e1,e2,r1]
     simp
    ·exact j1
    ·exact j2
   | tup=>simp [shapes] at hs
theorem c2k (hR:Rel S G g nt s a w) {id:Nat} {sh:List (Option Nat)} {first cap:List Rand} {first' cap':List Operand} (h1:MRs S G first first') (h2:MRs S G cap cap')
 (e:eff base s.h (rd S.Γ s.t) (.mkf id sh first cap)=some (v,ws)):ws=[]/\Looks S g a w (.makeFunc (.func (S.fm id)) first'.toArray cap'.toArray) v:=by
 simp only [eff] at e
 split at e
 ·rename_i hsh
  simp only [Option.some.injEq,Prod.mk.injEq] at e
  obtain ⟨rfl,rfl⟩:=e
  have get:∀ {xs:List Rand} {ys:List Operand},MRs S G xs ys->∀ (j:Nat) v x,(xs.map (rd S.Γ s.t))[j]?=some v->(ys.map a.eval)[j]?=some x->RV S g v x:=by
   intro xs ys hm j v x hv hx
   simp only [List.getElem?_map,Option.map_eq_some_iff] at hv hx
   obtain ⟨r,hr,rfl⟩:=hv
   obtain ⟨o,ho,rfl⟩:=hx
   exact b1r hR hm j r o hr ho
  obtain ⟨u1,u2,u3⟩:=a6X hsh.1 (by simp [b0u h1]) (get h1)
  obtain ⟨c1,c2,c3⟩:=a6X hsh.2 (by simp [b0u h2]) (get h2)
  have c4:(cap'.map a.eval).flatMap (fun x=>x.cells.toList)=cap'.map a.eval:=by
   have:∀ (n:List Rand) (xs ys:List Value),a2J (n.map fun _=>none) xs=some ys->xs=ys:=by
    intro n
    induction n with
    | nil=>intro xs ys h;cases xs<;>simp [a2J] at h ⊢;exact h
    | cons _ n ih =>
     intro xs ys h
     cases xs with
     | nil=>simp [a2J] at h
     | cons x xs =>
      simp only [List.map_cons,a2J,Option.map_eq_some_iff] at h
      obtain ⟨r,hr,rfl⟩:=h
      rw [ih _ _ hr]
   exact this cap _ _ c1
  rw [c4] at c2 c3
  refine ⟨rfl,fun o' ho'=>⟨.func (.func (S.fm id)) (first'.map a.eval).toArray (cap'.map a.eval).toArray,by simp [execOp,ho',Instr.makeFunc],.sc _ _ ?_⟩⟩
  exact .fn id sh _ _ _ _ _ u2.symm u1 u3 c2.symm c3
 ·cases e
end
end Go.Pm
namespace Go.Pm
theorem a7l:∀ {ts:List Nat} {cs ds:List C} {b:Bool},a0c ts cs ds=some b->cs.length=ts.length/\ds.length=ts.length
 | [],[],[],_,_=>⟨rfl,rfl⟩
 | t::ts,c::cs,d::ds,b,e=>by
  unfold a0c at e
  split at e
  ·rename_i h1 h2
   obtain ⟨h,h'⟩:=a7l h2
   exact ⟨by simp [h],by simp [h']⟩
  ·cases e
 | [],_::_,_,_,e=>by simp [a0c] at e
 | [],[],_::_,_,e=>by simp [a0c] at e
 | _::_,[],_,_,e=>by simp [a0c] at e
 | _::_,_::_,[],_,e=>by simp [a0c] at e
theorem a7V:∀ {t1 t2:List Nat} {cs ds:List C} {b:Bool},a0c (t1++t2) cs ds=some b →
 ∃ b1 b2,a0c t1 (cs.take t1.length) (ds.take t1.length)=some b1/\a0c t2 (cs.drop t1.length) (ds.drop t1.length)=some b2/\b=(b1&&b2)
 | [],t2,cs,ds,b,e=>⟨true,b,by simp [a0c],by simpa using e,by simp⟩
 | t::t1,t2,cs,ds,b,e=>by
  cases cs with
  | nil=>simp [a0c] at e
  | cons c cs =>
   cases ds with
   | nil=>simp [a0c] at e
   | cons d ds =>
    rw [List.cons_append] at e
    unfold a0c at e
    split at e
    ·rename_i x y h1 h2
     obtain ⟨b1,b2,e1,e2,rfl⟩:=a7V h2
     simp only [Option.some.injEq] at e
     subst e
     exact ⟨x&&b1,b2,by simp [a0c,h1,e1],by simpa using e2,by simp [Bool.and_assoc]⟩
    ·cases e
section
variable {S:Seat} {G:List Nat} {g g':Gh} {nt:Nat} {s:St} {a:Act} {w w':World} {h:List Obj} {base:Nat} {v:V} {ws:List (Nat × Obj)}
theorem KR.a2T {cs:List C} {v:Value} (h:KR S g true cs v):∃ vals:Array Value,v=.agg vals/\cs.length=vals.size/\∀ (j:Nat) c x,cs[j]?=some c->vals[j]?=some x->RC S g c x:=by
 obtain ⟨vs,rfl,hl,_,hr⟩:=h
 exact ⟨vs.toArray,rfl,by simp [hl],fun j c x a b=>hr j c x a (by simpa using b)⟩
theorem KR.a2C {c:C} {v:Value} (h:KR S g false [c] v):RC S g c v:=by
 obtain ⟨vs,rfl,hl,_,hr⟩:=h
 cases vs with
 | nil=>simp at hl
 | cons x xs=>exact hr 0 c x rfl rfl
theorem KR.b7T {cs:List C} {vals:Array Value} (hl:cs.length=vals.size) (hr:∀ (j:Nat) c x,cs[j]?=some c->vals[j]?=some x->RC S g c x):KR S g true cs (.agg vals) :=
 ⟨vals.toList,by simp [ofV],by simp [hl],by simp,fun j c x a b=>hr j c x a (by simpa using b)⟩
theorem KR.mk_one {c:C} {v:Value} (h:RC S g c v):KR S g false [c] v :=
 ⟨[v],by simp [ofV],rfl,by simp,fun j c x a b=>by
  cases j with
  | zero=>simp at a b;subst a;subst b;exact h
  | succ j=>simp at a⟩
theorem KR.b3Q {v:V} {x:Value} {agg:Bool} (h:RV S g v x) (ha:v.isAgg=agg) (ht:v≠.sc .top) (ht':∀ vs,v≠.tup vs):KR S g agg v.cells x:=by
 cases h with
 | top=>exact absurd rfl ht
 | sc c _ h =>
  have hc:V.cells (.sc c)=[c]:=by cases c<;>first|rfl|exact absurd rfl h.a8Q|exact absurd rfl (h.a2a _ _ _)
  have:agg=false:=by rw [← ha];rfl
  subst this
  rw [hc];exact .mk_one h
 | agg cs vals hs h =>
  have:agg=true:=by rw [← ha];rfl
  subst this
  exact .b7T hs h
 | tup vs ws=>exact absurd rfl (ht' vs)
theorem flat_agg {P:Program} {d:Nat} {t:TypeId} {k:KT} (h:flat P d t=some k):∃ u,P.underlying t=some u/\a5C u=k.agg/\(k.agg=false->k.tags.length=1):=by
 cases d with
 | zero=>simp [flat] at h
 | succ d =>
  unfold flat at h
  cases hu:P.underlying t with
  | none=>simp [hu] at h
  | some u =>
   rw [hu] at h
   cases u<;>simp only [reduceCtorEq,Option.some.injEq] at h
   case bool=>subst h;exact ⟨_,rfl,rfl,fun _=>rfl⟩
   case int=>subst h;exact ⟨_,rfl,rfl,fun _=>rfl⟩
   case string=>subst h;exact ⟨_,rfl,rfl,fun _=>rfl⟩
   case struct fs =>
    split at h
    ·cases h
    ·simp only [Option.map_eq_some_iff] at h
     obtain ⟨ts,_,rfl⟩:=h
     exact ⟨_,rfl,rfl,by simp⟩
   case array len e =>
    split at h
    ·split at h
     ·simp only [Option.some.injEq] at h;subst h;exact ⟨_,rfl,rfl,by simp⟩
     ·cases h
    ·cases h
theorem a7J {d:Nat} {e:TypeId} {k:KT} {cs:List C} {vals:Array Value} {off:Nat} (hf:flat S.P d e=some k) (hi:(S.P.info? e).map (·.size)=some k.tags.length) (hs:cs.length=vals.size)
 (hr:∀ (j:Nat) c x,cs[j]?=some c->vals[j]?=some x->RC S g c x) (hle:off+k.tags.length<=cs.length) :
 ∃ y,(part e vals off).run S.P w=.ok y w/\KR S g k.agg ((cs.drop off).take k.tags.length) y:=by
 obtain ⟨u,hu,ha,h1⟩:=flat_agg hf
 simp only [Option.map_eq_some_iff] at hi
 obtain ⟨i,hi,hsz⟩:=hi
 cases hk:k.agg with
 | false =>
  rw [hk] at ha
  have hone:=h1 hk
  have hlt:off<vals.size:=by omega
  have hlt':off<cs.length:=by omega
  refine ⟨vals[off],by simp [part,a5h hu,ha,Array.getElem?_eq_getElem hlt],?_⟩
  have:(cs.drop off).take k.tags.length=[cs[off]]:=by
   rw [hone,List.drop_eq_getElem_cons hlt']
   rfl
  rw [this]
  exact .mk_one (hr off _ _ (List.getElem?_eq_getElem hlt') (Array.getElem?_eq_getElem hlt))
 | true =>
  rw [hk] at ha
  refine ⟨.agg (vals.extract off (off+k.tags.length)),by simp [part,a5h hu,ha,a1u hi,hsz],.b7T (by simp;omega) fun j c x hc hx=>?_⟩
  rw [List.getElem?_take] at hc
  split at hc
  ·rw [List.getElem?_drop] at hc
   rw [Array.getElem?_extract] at hx
   split at hx
   ·exact hr _ _ _ hc hx
   ·cases hx
  ·cases hc
theorem a6f {t:Nat} {c d:C} {b:Bool} {x y:Value} (h:a0g t c d=some b) (hx:RC S g c x) (hy:RC S g d y) :
 (t=0/\∃ p q,x=.bool p/\y=.bool q/\b=(p == q))\/(t=1/\∃ k p q,x=.int k p/\y=.int k q/\b=(p == q))\/(t=2/\∃ p q,x=.string p/\y=.string q/\b=(p == q)):=by
 unfold a0g at h
 split at h
 ·cases hx;cases hy;simp only [Option.some.injEq] at h;exact .inl ⟨rfl,_,_,rfl,rfl,h.symm⟩
 ·split at h
  ·rename_i hk
   subst hk
   cases hx;cases hy;simp only [Option.some.injEq] at h;exact .inr (.inl ⟨rfl,_,_,_,rfl,rfl,h.symm⟩)
  ·cases h
 ·cases hx;cases hy;simp only [Option.some.injEq] at h;exact .inr (.inr ⟨rfl,_,_,rfl,rfl,h.symm⟩)
 ·cases h
theorem a5e {t:Nat} {cs ds:List C} {b:Bool} (h:a0c [t] cs ds=some b):∃ c d,cs=[c]/\ds=[d]/\a0g t c d=some b:=by
 obtain ⟨h1,h2⟩:=a7l h
 cases cs with
 | nil=>simp at h1
 | cons c cs =>
  cases ds with
  | nil=>simp at h2
  | cons d ds =>
   simp at h1 h2
   subst h1;subst h2
   refine ⟨c,d,rfl,rfl,?_⟩
   simp only [a0c] at h
   split at h
   ·rename_i e1 e2
    simp only [Option.some.injEq] at e2
    subst e2
    rw [e1];simpa using h
   ·cases h
def Comp (S:Seat) (g:Gh) (dd:Nat) (t:TypeId) (k:KT):Prop :=
 ∀ (w:World) (x y:Value) (cs ds:List C) (b:Bool),KR S g k.agg cs x->KR S g k.agg ds y->a0c k.tags cs ds=some b->(Op.equalIn dd t x y).run S.P w=.ok b w
theorem b0F {d dd:Nat} (IH:∀ t k,flat S.P d t=some k->Comp S g dd t k) {cs ds:List C} {xs ys:Array Value} (hx:cs.length=xs.size) (hy:ds.length=ys.size)
 (hrx:∀ (j:Nat) c x,cs[j]?=some c->xs[j]?=some x->RC S g c x) (hry:∀ (j:Nat) c x,ds[j]?=some c->ys[j]?=some x->RC S g c x) :
 ∀ (fs:List Field) (off:Nat) (ts:List Nat) (b:Bool),a7Q S.P (flat S.P d) off fs=some ts->off+ts.length<=cs.length->off+ts.length<=ds.length →
  a0c ts ((cs.drop off).take ts.length) ((ds.drop off).take ts.length)=some b->(Op.eqFields dd xs ys fs).run S.P w=.ok b w
 | [],off,ts,b,hf,_,_,he=>by
  simp only [a7Q,Option.some.injEq] at hf
  subst hf
  simp only [List.length_nil,List.take_zero,a0c,Option.some.injEq] at he
  subst he
  simp [Op.eqFields]
 | f::fs,off,ts,b,hf,hc,hd,he=>by
  unfold a7Q at hf
  split at hf
  ·cases hf
  ·rename_i k hk
   split at hf
   ·rename_i hcond
    obtain ⟨hname,hoff,hsz⟩:=hcond
    simp only [Option.map_eq_some_iff] at hf
    obtain ⟨ts',hts',rfl⟩:=hf
    rw [List.length_append] at hc hd
    obtain ⟨p,p1,p2⟩:=a7J (S:=S) (g:=g) (w:=w) (off:=f.offset) hk hsz hx hrx (by omega)
    obtain ⟨q,q1,q2⟩:=a7J (S:=S) (g:=g) (w:=w) (off:=f.offset) hk hsz hy hry (by omega)
    obtain ⟨b1,b2,e1,e2,rfl⟩:=a7V he
    have t1:∀ l:List C,((l.drop off).take (k.tags++ts').length).take k.tags.length=(l.drop off).take k.tags.length:=fun l=>by
     rw [List.take_take];congr 1;simp
    have t2:∀ l:List C,((l.drop off).take (k.tags++ts').length).drop k.tags.length=(l.drop (off+k.tags.length)).take ts'.length:=fun l=>by
     rw [List.drop_take,List.drop_drop,List.length_append,Nat.add_sub_cancel_left]
    rw [t1,t1, ← hoff] at e1
    rw [t2,t2] at e2
    have c1:=IH f.type k hk w p q _ _ b1 p2 q2 e1
    have c2:=b0F IH hx hy hrx hry fs (off+k.tags.length) ts' b2 hts' (by omega) (by omega) e2
    simp only [Op.eqFields,hname,ne_eq,not_false_eq_true,if_true,Sem.run_bind,p1,q1,c1,Result.andThen_ok]
    cases b1 with
    | false=>simp
    | true=>simpa using c2
   ·cases hf
theorem b1B {d dd:Nat} {e:TypeId} {k:KT} (hk:flat S.P d e=some k) (IH:Comp S g dd e k) (hsz:(S.P.info? e).map (·.size)=some k.tags.length) {cs ds:List C} {xs ys:Array Value}
 (hx:cs.length=xs.size) (hy:ds.length=ys.size)
 (hrx:∀ (j:Nat) c x,cs[j]?=some c->xs[j]?=some x->RC S g c x) (hry:∀ (j:Nat) c x,ds[j]?=some c->ys[j]?=some x->RC S g c x) :
 ∀ (m i:Nat) (b:Bool),(i+m)*k.tags.length<=cs.length->(i+m)*k.tags.length<=ds.length →
  a0c (List.replicate m k.tags).flatten ((cs.drop (i*k.tags.length)).take (m*k.tags.length)) ((ds.drop (i*k.tags.length)).take (m*k.tags.length))=some b →
  (Op.eqItems dd e k.tags.length xs ys (List.range' i m)).run S.P w=.ok b w
 | 0,i,b,_,_,he=>by
  simp only [List.replicate_zero,List.flatten_nil,Nat.zero_mul,List.take_zero,a0c,Option.some.injEq] at he
  subst he
  simp [Op.eqItems]
 | m+1,i,b,hc,hd,he=>by
  have hmul:(i+(m+1))*k.tags.length=i*k.tags.length+k.tags.length+m*k.tags.length:=by
   rw [show i+(m+1)=i+1+m from by omega,Nat.add_mul,Nat.add_mul,Nat.one_mul]
  obtain ⟨p,p1,p2⟩:=a7J (S:=S) (g:=g) (w:=w) (off:=i*k.tags.length) hk hsz hx hrx (by omega)
  obtain ⟨q,q1,q2⟩:=a7J (S:=S) (g:=g) (w:=w) (off:=i*k.tags.length) hk hsz hy hry (by omega)
  rw [List.replicate_succ,List.flatten_cons] at he
  obtain ⟨b1,b2,e1,e2,rfl⟩:=a7V he
  have hm1:(m+1)*k.tags.length=k.tags.length+m*k.tags.length:=by rw [Nat.add_mul,Nat.one_mul,Nat.add_comm]
  have t1:∀ l:List C,((l.drop (i*k.tags.length)).take ((m+1)*k.tags.length)).take k.tags.length=(l.drop (i*k.tags.length)).take k.tags.length:=fun l=>by
   rw [List.take_take];congr 1;omega
  have t2:∀ l:List C,((l.drop (i*k.tags.length)).take ((m+1)*k.tags.length)).drop k.tags.length=(l.drop ((i+1)*k.tags.length)).take (m*k.tags.length):=fun l=>by
   rw [List.drop_take,List.drop_drop,hm1,Nat.add_sub_cancel_left,Nat.add_mul,Nat.one_mul]
  rw [t1,t1] at e1
  rw [t2,t2] at e2
  have c1:=IH w p q _ _ b1 p2 q2 e1
  have c2:=b1B hk IH hsz hx hy hrx hry m (i+1) b2 (by rw [show i+1+m=i+(m+1) from by omega];exact hc) (by rw [show i+1+m=i+(m+1) from by omega];exact hd) e2
  rw [List.range'_succ]
  simp only [Op.eqItems,Sem.run_bind,p1,q1,c1,Result.andThen_ok]
  cases b1 with
  | false=>simp
  | true=>simpa using c2
theorem a8f:∀ (d:Nat) (t:TypeId) (k:KT),flat S.P d t=some k->∀ dd,d<=dd->Comp S g dd t k
 | 0,t,k,hf,_,_=>by simp [flat] at hf
 | d+1,t,k,hf,0,h=>by omega
 | d+1,t,k,hf,dd+1,h=>by
  intro w x y cs ds b hx hy he
  have IH:∀ t k,flat S.P d t=some k->Comp S g dd t k:=fun t k hk=>a8f d t k hk dd (by omega)
  unfold flat at hf
  cases hu:S.P.underlying t with
  | none=>simp [hu] at hf
  | some u =>
   rw [hu] at hf
   cases u<;>simp only [reduceCtorEq,Option.some.injEq] at hf
   case bool =>
    subst hf
    obtain ⟨c,d',rfl,rfl,e1⟩:=a5e he
    rcases a6f e1 hx.a2C hy.a2C with ⟨_,p,q,rfl,rfl,rfl⟩|⟨h,_⟩|⟨h,_⟩
    ·simp [Op.equalIn,run_underlying hu]
    ·cases h
    ·cases h
   case int =>
    subst hf
    obtain ⟨c,d',rfl,rfl,e1⟩:=a5e he
    rcases a6f e1 hx.a2C hy.a2C with ⟨h,_⟩|⟨_,k,p,q,rfl,rfl,rfl⟩|⟨h,_⟩
    ·cases h
    ·simp [Op.equalIn,run_underlying hu]
    ·cases h
   case string =>
    subst hf
    obtain ⟨c,d',rfl,rfl,e1⟩:=a5e he
    rcases a6f e1 hx.a2C hy.a2C with ⟨h,_⟩|⟨h,_⟩|⟨_,p,q,rfl,rfl,rfl⟩
    ·cases h
    ·cases h
    ·simp [Op.equalIn,run_underlying hu]
   case struct fs =>
    split at hf
    ·cases hf
    ·rename_i hst
     simp only [Option.map_eq_some_iff] at hf
     obtain ⟨ts,hts,rfl⟩:=hf
     obtain ⟨xs,rfl,hlx,hrx⟩:=hx.a2T
     obtain ⟨ys,rfl,hly,hry⟩:=hy.a2T
     obtain ⟨l1,l2⟩:=a7l he
     have hfs:S.P.fieldsOf t=fs:=by simp [Program.fieldsOf,hu]
     rw [run_equalIn_struct w dd t xs ys (by rw [hfs];exact hu) (by simpa using hst),hfs]
     refine b0F IH hlx hly hrx hry fs.toList 0 ts b hts ?_ ?_ ?_
     ·simp only [Nat.zero_add];exact Nat.le_of_eq l1.symm
     ·simp only [Nat.zero_add];exact Nat.le_of_eq l2.symm
     ·rw [List.drop_zero,List.drop_zero,List.take_of_length_le (Nat.le_of_eq l1),List.take_of_length_le (Nat.le_of_eq l2)]
      exact he
   case array len e =>
    split at hf
    ·rename_i ke hke
     split at hf
     ·rename_i hsz
      simp only [Option.some.injEq] at hf
      subst hf
      obtain ⟨xs,rfl,hlx,hrx⟩:=hx.a2T
      obtain ⟨ys,rfl,hly,hry⟩:=hy.a2T
      obtain ⟨l1,l2⟩:=a7l he
      have l1':cs.length=len*ke.tags.length:=by rw [l1];simp
      have l2':ds.length=len*ke.tags.length:=by rw [l2];simp
      obtain ⟨i,hi,hisz⟩:=Option.map_eq_some_iff.1 hsz
      have hcells:S.P.cellsOf e=ke.tags.length:=by simp [Program.cellsOf,hi,hisz]
      rw [run_equalIn_array w dd xs ys hu hi,hcells,List.range_eq_range']
      refine b1B hke (IH e ke hke) hsz hlx hly hrx hry len 0 b ?_ ?_ ?_
      ·rw [Nat.zero_add];exact Nat.le_of_eq l1'.symm
      ·rw [Nat.zero_add];exact Nat.le_of_eq l2'.symm
      ·simp only [Nat.zero_mul,List.drop_zero]
       rw [List.take_of_length_le (Nat.le_of_eq l1'),List.take_of_length_le (Nat.le_of_eq l2')]
       exact he
     ·cases hf
    ·cases hf
end
end Go.Pm
namespace Go.Pm
section
variable {S:Seat} {G:List Nat} {g g':Gh} {nt:Nat} {s:St} {a:Act} {w w':World} {h:List Obj} {base:Nat} {v:V} {ws:List (Nat × Obj)}
theorem b3E {ty:KT} {x y:V} {b:Bool} (hd:∃ n,0<n/\ty.tags.length=n) (he:a0c ty.tags x.cells y.cells=some b):(x≠.sc .top/\∀ vs,x≠.tup vs)/\(y≠.sc .top/\∀ vs,y≠.tup vs):=by
 obtain ⟨n,hn,hl⟩:=hd
 obtain ⟨h1,h2⟩:=a7l he
 refine ⟨⟨?_,?_⟩,⟨?_,?_⟩⟩
 ·rintro rfl;simp [V.cells] at h1;omega
 ·rintro vs rfl;simp [V.cells] at h1;omega
 ·rintro rfl;simp [V.cells] at h2;omega
 ·rintro vs rfl;simp [V.cells] at h2;omega
theorem a9A {x:V} (h:x.isAgg=true):x≠.sc .top/\∀ vs,x≠.tup vs:=by
 cases x<;>simp_all [V.isAgg]
theorem c1Y (hR:Rel S G g nt s a w) {neg:Bool} {ty:KT} {x y:Rand} {x' y':Operand} {t t2:TypeId} {d:Nat} (h1:MR S G x x') (h2:MR S G y y') (hf:flat S.P d t=some ty) (hd:d<=100)
 (hty:ty.agg=true\/ty=⟨false,[0]⟩) (hg:S.P.eqGuardType S.P.depth t=false)
 (e:eff base s.h (rd S.Γ s.t) (.eqf neg ty x y)=some (v,ws)):ws=[]/\Looks S g a w (.binOp (if neg then .neq else .eql) t x' y' t2) v:=by
 have hx:=a0M hR h1
 have hy:=a0M hR h2
 simp only [eff] at e
 split at e
 ·rename_i hagg
  simp only [Option.map_eq_some_iff,Prod.mk.injEq] at e
  obtain ⟨b,hb,rfl,rfl⟩:=e
  have hodd:(rd S.Γ s.t x≠.sc .top/\∀ vs,rd S.Γ s.t x≠.tup vs)/\(rd S.Γ s.t y≠.sc .top/\∀ vs,rd S.Γ s.t y≠.tup vs):=by
   rcases hty with hty|hty
   ·exact ⟨a9A (by rw [hagg.1,hty]),a9A (by rw [hagg.2,hty])⟩
   ·exact b3E ⟨1,by omega,by rw [hty];rfl⟩ hb
  have kx:=KR.b3Q hx hagg.1 hodd.1.1 hodd.1.2
  have ky:=KR.b3Q hy hagg.2 hodd.2.1 hodd.2.2
  have hcmp:=a8f (S:=S) (g:=g) d t ty hf 10000 (by omega) w _ _ _ _ b kx ky hb
  refine ⟨rfl,fun o ho=>⟨.bool (neg ^^ b),?_,.sc _ _ (.bool _)⟩⟩
  have key:(do eqGuard (if neg then .neq else .eql) t x' y' (a.eval x') (a.eval y');binOp (if neg then .neq else .eql) t (a.eval x') (a.eval y'):Sem Value).run S.P w=.ok (.bool (neg ^^ b)) w:=by
   rcases hty with hty|hty
   ·rw [hty] at kx ky
    obtain ⟨xs,ex,_⟩:=kx.a2T
    obtain ⟨ys,ey,_⟩:=ky.a2T
    rw [ex,ey] at hcmp ⊢
    rw [Sem.run_bind,run_eqGuard_agg w _ t x' y' xs ys hg,Result.andThen_ok]
    cases neg with
    | true=>rw [if_pos rfl,run_neq_struct,hcmp];simp [Result.andThen]
    | false=>rw [if_neg (by simp),run_eql_struct,hcmp];simp [Result.andThen]
   ·subst hty
    obtain ⟨c,c',e1,e2,e3⟩:=a5e hb
    rw [e1] at kx
    rw [e2] at ky
    rcases a6f e3 kx.a2C ky.a2C with ⟨_,p,q,ex,ey,rfl⟩|⟨h,_⟩|⟨h,_⟩
    ·rw [ex,ey] at hcmp ⊢
     have hg':(eqGuard (if neg then .neq else .eql) t x' y' (.bool p) (.bool q)).run S.P w=.ok () w:=by cases neg<;>simp [eqGuard]
     rw [Sem.run_bind,hg',Result.andThen_ok]
     have hcmp':(Op.equal t (.bool p) (.bool q)).run S.P w=.ok (p == q) w:=hcmp
     cases neg with
     | true=>simp [binOp,hcmp']
     | false=>simp [binOp,hcmp']
    ·cases h
    ·cases h
  simp only [execOp,ho,Sem.run_bind] at key ⊢
  rw [key];rfl
 ·cases e
/-! ### Keys -/
theorem a9Q {em:Bool} {d dd:Nat} {w:World} (IH:∀ t k,flat S.P d t=some k->∀ cs x,KR S g k.agg cs x->cs.length=k.tags.length->(Instr.checkKey em dd t x).run S.P w=.ok () w) {cs:List C} {xs:Array Value} (hx:cs.length=xs.size)
 (hrx:∀ (j:Nat) c x,cs[j]?=some c->xs[j]?=some x->RC S g c x) :
 ∀ (fs:List Field) (off:Nat) (ts:List Nat),a7Q S.P (flat S.P d) off fs=some ts->off+ts.length<=cs.length →
  (forIn fs PUnit.unit (fun f _=>do
   if f.name ≠ "_" then Instr.checkKey em dd f.type (← part f.type xs f.offset)
   pure (ForInStep.yield PUnit.unit):Field->PUnit->Sem (ForInStep PUnit))).run S.P w=.ok PUnit.unit w
 | [],off,ts,hf,_=>by simp
 | f::fs,off,ts,hf,hc=>by
  unfold a7Q at hf
  split at hf
  ·cases hf
  ·rename_i k hk
   split at hf
   ·rename_i hcond
    obtain ⟨hname,hoff,hsz⟩:=hcond
    simp only [Option.map_eq_some_iff] at hf
    obtain ⟨ts',hts',rfl⟩:=hf
    rw [List.length_append] at hc
    obtain ⟨p,p1,p2⟩:=a7J (S:=S) (g:=g) (w:=w) (off:=f.offset) hk hsz hx hrx (by omega)
    have c1:=IH f.type k hk _ p p2 (by simp;omega)
    have c2:=a9Q IH hx hrx fs (off+k.tags.length) ts' hts' (by omega)
    simp only [List.forIn_cons,Sem.run_bind,hname,ne_eq,not_false_eq_true,if_true,Result.andThen_ok,p1,c1,Sem.run_pure]
    simpa using c2
   ·cases hf
theorem a6j {em:Bool}:∀ (d:Nat) (t:TypeId) (k:KT),flat S.P d t=some k->∀ dd,d<=dd->∀ (w:World) (cs:List C) (x:Value),KR S g k.agg cs x->cs.length=k.tags.length →
 (Instr.checkKey em dd t x).run S.P w=.ok () w
 | 0,t,k,hf,_,_=>by simp [flat] at hf
 | d+1,t,k,hf,0,h=>by omega
 | d+1,t,k,hf,dd+1,h=>by
  intro w cs x hx hl
  have IH:∀ t k,flat S.P d t=some k->∀ cs x,KR S g k.agg cs x->cs.length=k.tags.length->(Instr.checkKey em dd t x).run S.P w=.ok () w :=
   fun t k hk cs x=>a6j d t k hk dd (by omega) w cs x
  unfold flat at hf
  cases hu:S.P.underlying t with
  | none=>simp [hu] at hf
  | some u =>
   rw [hu] at hf
   cases u<;>simp only [reduceCtorEq,Option.some.injEq] at hf
   case bool=>simp [Instr.checkKey,run_underlying hu]
   case int=>simp [Instr.checkKey,run_underlying hu]
   case string=>simp [Instr.checkKey,run_underlying hu]
   case struct fs =>
    split at hf
    ·cases hf
    ·simp only [Option.map_eq_some_iff] at hf
     obtain ⟨ts,hts,rfl⟩:=hf
     obtain ⟨xs,rfl,hlx,hrx⟩:=hx.a2T
     have hl':cs.length=ts.length:=hl
     have:=a9Q (em:=em) IH hlx hrx fs.toList 0 ts hts (by omega)
     rw [Instr.checkKey]
     simp only [Sem.run_bind,run_underlying hu,Result.andThen_ok]
     rw [← Array.forIn_toList]
     simp at this ⊢
     rw [this];rfl
   case array len e =>
    split at hf
    ·rename_i ke hke
     split at hf
     ·rename_i hsz
      simp only [Option.some.injEq] at hf
      subst hf
      obtain ⟨xs,rfl,hlx,hrx⟩:=hx.a2T
      have hl':cs.length=len*ke.tags.length:=by rw [hl];simp
      obtain ⟨i,hi,hisz⟩:=Option.map_eq_some_iff.1 hsz
      rw [Instr.checkKey]
      simp only [Sem.run_bind,run_underlying hu,Result.andThen_ok]
      simp only [Std.Legacy.Range.forIn_eq_forIn_range',Std.Legacy.Range.size,Nat.sub_zero,Nat.add_one_sub_one,Nat.div_one]
      have:∀ m j,j+m<=len->(forIn (List.range' j m) PUnit.unit (fun i _=>do
       Instr.checkKey em dd e (← part e xs (i*(← sizeOf e)))
       pure (ForInStep.yield PUnit.unit):Nat->PUnit->Sem (ForInStep PUnit))).run S.P w=.ok PUnit.unit w:=by
       intro m
       induction m with
       | zero=>intro j _;simp
       | succ m ih =>
        intro j hj
        have hle:(j+1)*ke.tags.length<=len*ke.tags.length:=Nat.mul_le_mul_right _ (by omega)
        rw [Nat.add_mul,Nat.one_mul] at hle
        obtain ⟨p,p1,p2⟩:=a7J (S:=S) (g:=g) (w:=w) (off:=j*ke.tags.length) hke hsz hlx hrx (by omega)
        have c1:=IH e ke hke _ p p2 (by simp;omega)
        have c2:=ih (j+1) (by omega)
        rw [List.range'_succ]
        simp only [List.forIn_cons,Sem.run_bind,a1u hi,hisz,Result.andThen_ok,p1,c1,Sem.run_pure]
        simpa using c2
      have h0:=this len 0 (by omega)
      simp at h0 ⊢
      rw [h0];rfl
     ·cases hf
    ·cases hf
def Keys (S:Seat) (g:Gh) (agg:Bool) (l:List (List C × List C)) (es:List MapEntry):Prop :=
 l.length=es.length/\∀ (i:Nat) e m,l[i]?=some e->es[i]?=some m->KR S g agg e.1 m.key
theorem Keys.tail {agg:Bool} {e:List C × List C} {l:List (List C × List C)} {m:MapEntry} {es:List MapEntry} (h:Keys S g agg (e::l) (m::es)):KR S g agg e.1 m.key/\Keys S g agg l es :=
 ⟨h.2 0 e m rfl rfl,by simpa using h.1,fun i e m a b=>h.2 (i+1) e m (by simpa using a) (by simpa using b)⟩
def a8J (i:Nat) (r:Option (Nat × List C)) (es:List MapEntry) (o:Option (Nat × Value)):Prop :=
 match r with
 | none=>o=none
 | some (n,_)=>∃ m,i<=n/\es[n - i]?=some m/\o=some (n,m.val)
theorem a8H {d:Nat} {t:TypeId} {ty:KT} (hf:flat S.P d t=some ty) (hd:d<=100) {key:List C} {x:Value} (hx:KR S g ty.agg key x) (w:World) :
 ∀ (l:List (List C × List C)) (es:List MapEntry) (i:Nat) (r:Option (Nat × List C)),Keys S g ty.agg l es->find ty.tags key i l=some r →
  ∃ o,(Instr.findAsking t x es i).run S.P w=.ok o w/\a8J i r es o
 | [],[],i,r,_,h=>by
  simp only [find,Option.some.injEq] at h
  subst h
  exact ⟨none,by simp [Instr.findAsking],rfl⟩
 | [],m::es,i,r,hk,_=>by have:=hk.1;simp at this
 | e::l,[],i,r,hk,_=>by have:=hk.1;simp at this
 | e::l,m::es,i,r,hk,h=>by
  obtain ⟨k1,k2⟩:=hk.tail
  unfold find at h
  split at h
  ·rename_i he
   simp only [Option.some.injEq] at h
   subst h
   have hc:=a8f (S:=S) (g:=g) d t ty hf 10000 (by omega) w _ _ _ _ _ hx k1 he
   exact ⟨some (i,m.val),by simp [Instr.findAsking,Op.equal,Op.maxDepth,hc],m,Nat.le_refl _,by simp,rfl⟩
  ·rename_i he
   have hc:=a8f (S:=S) (g:=g) d t ty hf 10000 (by omega) w _ _ _ _ _ hx k1 he
   obtain ⟨o,ho,hfd⟩:=a8H hf hd hx w l es (i+1) r k2 h
   refine ⟨o,by simp [Instr.findAsking,Op.equal,Op.maxDepth,hc,ho],?_⟩
   cases r with
   | none=>exact hfd
   | some q =>
    obtain ⟨n,c⟩:=q
    obtain ⟨m',h1,h2,h3⟩:=hfd
    exact ⟨m',by omega,by rw [show n - i=(n - (i+1))+1 from by omega];simpa using h2,h3⟩
  ·cases h
theorem b0O {u:TypeDesc} {t:Nat} {c d:C} {b:Bool} {x y:Value} (hu:(t=0/\u=.bool)\/(t=1/\∃ k,u=.int k)\/(t=2/\u=.string)) (h:a0g t c d=some b) (hx:RC S g c x) (hy:RC S g d y) :
 Instr.sameNow u x y=some b:=by
 rcases a6f h hx hy with ⟨ht,p,q,rfl,rfl,rfl⟩|⟨ht,k,p,q,rfl,rfl,rfl⟩|⟨ht,p,q,rfl,rfl,rfl⟩
 ·rcases hu with ⟨h,rfl⟩|⟨h,_⟩|⟨h,_⟩<;>first|(simp [Instr.sameNow];done)|omega
 ·rcases hu with ⟨h,_⟩|⟨h,k',rfl⟩|⟨h,_⟩<;>first|(simp [Instr.sameNow];done)|omega
 ·rcases hu with ⟨h,_⟩|⟨h,_⟩|⟨h,rfl⟩<;>first|(simp [Instr.sameNow];done)|omega
theorem b0J {u:TypeDesc} {t:Nat} (hu:(t=0/\u=.bool)\/(t=1/\∃ k,u=.int k)\/(t=2/\u=.string)) {key:List C} {x:Value} (hx:KR S g false key x) :
 ∀ (l:List (List C × List C)) (es:List MapEntry) (i:Nat) (r:Option (Nat × List C)),Keys S g false l es->find [t] key i l=some r →
  ∃ o,Instr.findNow u x es i=some o/\a8J i r es o
 | [],[],i,r,_,h=>by
  simp only [find,Option.some.injEq] at h
  subst h
  exact ⟨none,by simp [Instr.findNow],rfl⟩
 | [],m::es,i,r,hk,_=>by have:=hk.1;simp at this
 | e::l,[],i,r,hk,_=>by have:=hk.1;simp at this
 | e::l,m::es,i,r,hk,h=>by
  obtain ⟨k1,k2⟩:=hk.tail
  unfold find at h
  split at h
  ·rename_i he
   simp only [Option.some.injEq] at h
   subst h
   obtain ⟨c,c',e1,e2,e3⟩:=a5e he
   rw [e1] at hx
   rw [e2] at k1
   exact ⟨some (i,m.val),by simp [Instr.findNow,b0O hu e3 hx.a2C k1.a2C],m,Nat.le_refl _,by simp,rfl⟩
  ·rename_i he
   obtain ⟨c,c',e1,e2,e3⟩:=a5e he
   obtain ⟨o,ho,hfd⟩:=b0J hu hx l es (i+1) r k2 h
   rw [e1] at hx
   rw [e2] at k1
   refine ⟨o,by simp [Instr.findNow,b0O hu e3 hx.a2C k1.a2C,ho],?_⟩
   cases r with
   | none=>exact hfd
   | some q =>
    obtain ⟨n,c⟩:=q
    obtain ⟨m',h1,h2,h3⟩:=hfd
    exact ⟨m',by omega,by rw [show n - i=(n - (i+1))+1 from by omega];simpa using h2,h3⟩
  ·cases h
theorem b5m {u:TypeDesc} (hu:a5C u=true) {x:Value}:∀ (es:List MapEntry) (i:Nat),Instr.findNow u x es i=none\/(es=[]/\Instr.findNow u x es i=some none)
 | [],i=>.inr ⟨rfl,by simp [Instr.findNow]⟩
 | m::es,i=>by
  left
  cases u<;>simp [a5C] at hu<;>simp [Instr.findNow,Instr.sameNow]
theorem a4S {d:Nat} {t:TypeId} {ty:KT} (hf:flat S.P d t=some ty) (hd:d<=100) {key:List C} {x:Value} (hx:KR S g ty.agg key x) (w:World)
 {l:List (List C × List C)} {es:List MapEntry} {r:Option (Nat × List C)} (hk:Keys S g ty.agg l es) (h:find ty.tags key 0 l=some r) :
 ∃ o,(Instr.findKey t x es).run S.P w=.ok o w/\a8J 0 r es o:=by
 obtain ⟨u,hu,ha,_⟩:=flat_agg hf
 obtain ⟨o,ho,hfd⟩:=a8H hf hd hx w l es 0 r hk h
 cases hag:ty.agg with
 | true =>
  rw [hag] at ha
  rcases b5m (x:=x) ha es 0 with h0|⟨rfl,h0⟩
  ·exact ⟨o,by simp [Instr.findKey,run_underlying hu,h0,ho],hfd⟩
  ·refine ⟨none,by simp [Instr.findKey,run_underlying hu,h0],?_⟩
   have:o=none:=by
    simp [Instr.findAsking] at ho
    exact ho.symm
   rw [this] at hfd;exact hfd
 | false =>
  obtain ⟨d',rfl⟩:∃ d',d=d' + 1:=by
   cases d with
   | zero=>simp [flat] at hf
   | succ d'=>exact ⟨d',rfl⟩
  have hk':=hk
  rw [hag] at hx hk' ha
  unfold flat at hf
  rw [hu] at hf
  have fin:∀ t',ty=⟨false,[t']⟩->((t'=0/\u=.bool)\/(t'=1/\∃ k,u=.int k)\/(t'=2/\u=.string))->∃ o,(Instr.findKey t x es).run S.P w=.ok o w/\a8J 0 r es o:=by
   intro t' hty hc
   rw [hty] at h
   obtain ⟨o,ho,hfd⟩:=b0J hc hx l es 0 r hk' h
   exact ⟨o,by simp [Instr.findKey,run_underlying hu,ho],hfd⟩
  cases u<;>simp only [reduceCtorEq,Option.some.injEq,a5C] at hf ha
  case bool=>exact fin 0 hf.symm (.inl ⟨rfl,rfl⟩)
  case int k=>exact fin 1 hf.symm (.inr (.inl ⟨rfl,_,rfl⟩))
  case string=>exact fin 2 hf.symm (.inr (.inr ⟨rfl,rfl⟩))
end
end Go.Pm
namespace Go.Pm
section
variable {S:Seat} {G:List Nat} {g g':Gh} {nt:Nat} {s:St} {a:Act} {w w':World} {h:List Obj} {base:Nat} {v:V} {ws:List (Nat × Obj)}
theorem b7p {c d:C} (h:a0d c d=some true):c=d:=by
 unfold a0d at h
 split at h
 ·split at h
  ·rename_i hk;subst hk;simp at h;subst h;rfl
  ·cases h
 ·simp at h;subst h;rfl
 ·simp at h;subst h;rfl
 ·cases h
theorem b1y:∀ {cs ds:List C},a0b cs ds=some true->cs=ds
 | [],[],_=>rfl
 | c::cs,d::ds,h=>by
  unfold a0b at h
  split at h
  ·rename_i x y h1 h2
   simp only [Option.some.injEq,Bool.and_eq_true] at h
   obtain ⟨rfl,rfl⟩:=h
   rw [b7p h1,b1y h2]
  ·cases h
 | [],_::_,h=>by simp [a0b] at h
 | _::_,[],h=>by simp [a0b] at h
theorem b0K {ts:List Nat} {key:List C} (e:List C × List C):∀ (l:List (List C × List C)) (i:Nat),
 find ts key i (l++[e])=match find ts key i l with
  | some (some q)=>some (some q)
  | some none=>(match a0c ts key e.1 with
   | some true=>some (some (i+l.length,e.2))
   | some false=>some none
   | none=>none)
  | none=>none
 | [],i=>by
  simp only [List.nil_append,find,List.length_nil,Nat.add_zero]
  try rfl
 | x::l,i=>by
  simp only [List.cons_append,find]
  cases hx:a0c ts key x.1 with
  | none=>rfl
  | some b =>
   cases b with
   | true=>rfl
   | false =>
    simp only
    rw [b0K e l (i+1),List.length_cons,Nat.add_right_comm,Nat.add_assoc]
theorem find_spec {ts:List Nat} {key:List C}:∀ (l:List (List C × List C)) (i n:Nat) (c:List C),find ts key i l=some (some (n,c))->i<=n/\∃ e,l[n - i]?=some e/\c=e.2/\a0c ts key e.1=some true
 | [],i,n,c,h=>by simp [find] at h
 | x::l,i,n,c,h=>by
  simp only [find] at h
  split at h
  ·rename_i hx
   simp only [Option.some.injEq,Prod.mk.injEq] at h
   obtain ⟨rfl,rfl⟩:=h
   exact ⟨Nat.le_refl _,x,by simp,rfl,hx⟩
  ·obtain ⟨h1,e,h2,h3⟩:=find_spec l (i+1) n c h
   exact ⟨by omega,e,by rw [show n - i=(n - (i+1))+1 from by omega];simpa using h2,h3⟩
  ·cases h
theorem b2g {va:Bool} {cs:List C} {v:V} {x:Value} (e:a7I va cs=some v) (h:KR S g va cs x):RV S g v x:=by
 unfold a7I at e
 cases va with
 | true =>
  simp only [if_true,Option.some.injEq] at e
  subst e
  obtain ⟨vals,rfl,hl,hr⟩:=h.a2T
  exact .agg _ _ hl hr
 | false =>
  simp only [Bool.false_eq_true,if_false] at e
  split at e
  ·simp only [Option.some.injEq] at e
   subst e
   exact .sc _ _ h.a2C
  ·cases e
def Ents (S:Seat) (g:Gh) (ka va:Bool) (l:List (List C × List C)) (es:List MapEntry):Prop :=
 l.length=es.length/\∀ (i:Nat) e m,l[i]?=some e->es[i]?=some m->KR S g ka e.1 m.key/\KR S g va e.2 m.val
theorem Ents.keys {ka va:Bool} {l:List (List C × List C)} {es:List MapEntry} (h:Ents S g ka va l es):Keys S g ka l es:=⟨h.1,fun i e m a b=>(h.2 i e m a b).1⟩
theorem b7A {ka va:Bool} {l:List (List C × List C)} {x:Value} (hR:RelH S G g h w) (hv:RV S g (.sc (.imap ka va l)) x) :
 (l=[]/\x=.map none)\/∃ r es n,x=.map (some r)/\w.heap[r]?=some (.map es n)/\Ents S g ka va l es.toList:=by
 cases hv with
 | sc _ _ hc =>
  cases hc with
  | imapNil=>exact .inl ⟨rfl,rfl⟩
  | imap _ _ _ r es kv vv hN hs hE hL hK hV =>
   obtain ⟨n,hn, -⟩:=hR.mm r es hN
   refine .inr ⟨r,es,n,rfl,hn,by simp [hs],fun i e m hi hm=>?_⟩
   obtain ⟨m',hm',hk,hv⟩:=hE i e hi
   obtain ⟨l1,l2,l3,l4,_,_⟩:=hL i e hi
   rw [Array.getElem?_toList,hm'] at hm
   simp only [Option.some.injEq] at hm
   subst hm
   exact ⟨⟨kv i,hk,l1,l3,fun j c x a b=>hK i e j c x hi a b⟩,⟨vv i,hv,l2,l4,fun j c x a b=>hV i e j c x hi a b⟩⟩
theorem b4E {r:Nat} {ka va:Bool} {l:List (List C × List C)} {ph:Option (List C × List C)} (hR:RelH S G g h w) (hr:h[r]?=some (.map ka va l ph)) :
 ∃ es:Array MapEntry,w.heap[g.σ r]?=some (.map es es.size)/\Ents S g ka va (l++ph.toList) es.toList:=by
 obtain ⟨es,h1,h2,h3,h4,h5⟩:=hR.ob r _ hr
 refine ⟨es,h1,?_,fun i e m hi hm=>?_⟩
 ·cases ph<;>simp_all
 ·rw [Array.getElem?_toList] at hm
  by_cases hlt:i<l.length
  ·rw [List.getElem?_append_left hlt] at hi
   obtain ⟨x,y,_⟩:=h4 i e m hi hm
   exact ⟨x,y⟩
  ·rw [List.getElem?_append_right (by omega)] at hi
   cases ph with
   | none=>simp at hi
   | some p =>
    simp at hi
    have hlen:i=l.length:=by
     have:=(Array.getElem?_eq_some_iff.1 hm).1
     rw [h3] at this
     simp at this
     omega
    subst hlen
    simp at hi
    subst hi
    obtain ⟨x,y,_⟩:=h5 p.1 p.2 m rfl hm
    exact ⟨x,y⟩
def Told (S:Seat) (g:Gh) (va:Bool) (z:V):Option (Nat × List C)->Value->Bool->Prop
 | none,y,b=>b=false/\RV S g z y
 | some q,y,b=>b=true/\KR S g va q.2 y
theorem b2H {ty:KT} {v:V} {x:Value} {d:Nat} {t:TypeId} (hf:flat S.P d t=some ty) (h:fits ty v=true) (hv:RV S g v x):KR S g ty.agg v.cells x/\v.cells.length=ty.tags.length:=by
 simp only [fits,Bool.and_eq_true,beq_iff_eq] at h
 obtain ⟨u,_,_,h1⟩:=flat_agg hf
 refine ⟨.b3Q hv h.1 ?_ ?_,h.2⟩
 ·rintro rfl
  have ha:ty.agg=false:=h.1.symm
  have:=h1 ha
  have h2:=h.2
  simp [V.cells] at h2
  omega
 ·rintro vs rfl
  have ha:ty.agg=false:=h.1.symm
  have:=h1 ha
  have h2:=h.2
  simp [V.cells] at h2
  omega
theorem b1Z {ok:Bool} {ty:KT} {va:Bool} {z:V} {t kt et:TypeId} {d:Nat} {key:List C} {x k:Value} {es:List MapEntry} {l:List (List C × List C)} {r:Option (Nat × List C)}
 (hu:S.P.underlying t=some (.map kt et)) (hz:a7g S.P et z) (hf:flat S.P d kt=some ty) (hd:d<=100) (hx:(x=.map none/\es=[])\/∃ r n es',x=.map (some r)/\w.heap[r]?=some (.map es' n)/\es'.toList=es)
 (hE:Ents S g ty.agg va l es) (hk:KR S g ty.agg key k) (hlen:key.length=ty.tags.length) (hfind:find ty.tags key 0 l=some r) :
 ∃ y b,(Instr.lookup t x k ok).run S.P w=.ok (if ok then .tuple #[y,.bool b] else y) w/\Told S g va z r y b:=by
 have hck:∀ em,(Instr.checkKey em 10000 kt k).run S.P w=.ok () w:=fun em=>a6j d kt ty hf 10000 (by omega) w key k hk hlen
 obtain ⟨o,ho,hfd⟩:=a4S hf hd hk w hE.keys hfind
 obtain ⟨i,zv,hi,hzv,hKV⟩:=hz
 obtain ⟨y,b,hyb,htold⟩:∃ y b,((match o with|some (_,v)=>pure (v,true)|none=>do pure (← zeroValue et,false):Sem (Value × Bool))).run S.P w=.ok (y,b) w/\Told S g va z r y b:=by
  cases r with
  | none =>
   have:o=none:=hfd
   subst this
   exact ⟨zv,false,by simp [a3B hi hzv],rfl,hKV.rv⟩
  | some q =>
   obtain ⟨n,c⟩:=q
   obtain ⟨m,_,hm,rfl⟩:=hfd
   obtain ⟨_,e,he,rfl,_⟩:=find_spec l 0 n c hfind
   exact ⟨m.val,true,by simp,rfl,(hE.2 _ e m he hm).2⟩
 refine ⟨y,b,?_,htold⟩
 rcases hx with ⟨rfl,rfl⟩|⟨r',n,es',rfl,hr,hes⟩
 ·cases o with
  | none=>simp [a3B hi hzv] at hyb;obtain ⟨rfl,rfl⟩:=hyb;simp [Instr.lookup,run_underlying hu,hck,ho,a3B hi hzv]
  | some q=>simp at hyb;obtain ⟨rfl,rfl⟩:=hyb;simp [Instr.lookup,run_underlying hu,hck,ho]
 ·have hg:(getObj r').run S.P w=.ok (.map es' n) w:=by simp [getObj,Sem.run,hr]
  cases o with
  | none=>simp [a3B hi hzv] at hyb;obtain ⟨rfl,rfl⟩:=hyb;simp [Instr.lookup,run_underlying hu,hg,hck,hes,ho,a3B hi hzv]
  | some q=>simp at hyb;obtain ⟨rfl,rfl⟩:=hyb;simp [Instr.lookup,run_underlying hu,hg,hck,hes,ho]
theorem b4j {m key:V} {x:Value} {ok:Bool} {ty:KT} {z:V} {ka va:Bool} {l:List (List C × List C)} {r:Option (Nat × List C)} (hR:RelH S G g h w) (hm:RV S g m x)
 (hent:entries h ok ty z key m=some (ka,va,l)) (hfind:find ty.tags key.cells 0 l=some r) :
 ∃ es L r',((x=.map none/\es=[])\/∃ b n es',x=.map (some b)/\w.heap[b]?=some (.map es' n)/\es'.toList=es)/\Ents S g ka va L es/\find ty.tags key.cells 0 L=some r' ∧
  (r'=r\/(ok=false/\r=none/\∃ n,r'=some (n,z.cells))):=by
 unfold entries at hent
 split at hent
 ·rename_i p
  obtain ⟨hA,rfl⟩:g.A p/\x=.map (some (g.σ p)):=by
   have:=hm.a8W (by simp)
   cases this with
   | map r hA=>exact ⟨hA,rfl⟩
  split at hent
  ·rename_i ka' va' l' hp
   simp only [Option.some.injEq,Prod.mk.injEq] at hent
   obtain ⟨rfl,rfl,rfl⟩:=hent
   obtain ⟨es,h1,h2⟩:=b4E hR hp
   simp at h2
   exact ⟨_,_,r,.inr ⟨_,_,es,rfl,h1,rfl⟩,h2,hfind,.inl rfl⟩
  ·rename_i ka' va' l' k y hp
   split at hent
   ·cases hent
   ·rename_i hok
    obtain ⟨es,h1,h2⟩:=b4E hR hp
    have hfa:=b0K (ts:=ty.tags) (key:=key.cells) (k,y) l' 0
    split at hent
    ·rename_i hkey
     simp only [Option.some.injEq,Prod.mk.injEq] at hent
     obtain ⟨rfl,rfl,rfl⟩:=hent
     refine ⟨_,_,r,.inr ⟨_,_,es,rfl,h1,rfl⟩,h2,?_,.inl rfl⟩
     rw [Option.toList_some,hfa,hfind]
     cases r with
     | some q=>rfl
     | none=>simp only [hkey]
    ·rename_i hkey
     split at hent
     ·rename_i hzy
      simp only [Option.some.injEq,Prod.mk.injEq] at hent
      obtain ⟨rfl,rfl,rfl⟩:=hent
      have hzy':=b1y hzy
      cases r with
      | some q =>
       refine ⟨_,_,some q,.inr ⟨_,_,es,rfl,h1,rfl⟩,h2,?_,.inl rfl⟩
       rw [Option.toList_some,hfa,hfind]
      | none =>
       refine ⟨_,_,some (0+l'.length,y),.inr ⟨_,_,es,rfl,h1,rfl⟩,h2,?_,.inr ⟨by simpa using hok,rfl,0+l'.length,by rw [hzy']⟩⟩
       rw [Option.toList_some,hfa,hfind]
       simp only [hkey]
     ·cases hent
    ·cases hent
  ·cases hent
 ·rename_i ka' va' l'
  simp only [Option.some.injEq,Prod.mk.injEq] at hent
  obtain ⟨rfl,rfl,rfl⟩:=hent
  rcases b7A hR hm with ⟨rfl,rfl⟩|⟨b,es,n,rfl,h1,h2⟩
  ·exact ⟨[],[],r,.inl ⟨rfl,rfl⟩,⟨rfl,fun i e m a b=>by simp at a⟩,hfind,.inl rfl⟩
  ·exact ⟨_,_,r,.inr ⟨b,n,es,rfl,h1,rfl⟩,h2,hfind,.inl rfl⟩
 ·cases hent
theorem b6g {v:V} {y:Value} {b:Bool} (h:RV S g v y):RV S g (.tup [v,.sc (.bool b)]) (.tuple #[y,.bool b]):=by
 refine .tup _ _ rfl fun j v x hv hx=>?_
 rcases j with _|_|j
 ·simp at hv hx;subst hv;subst hx;exact h
 ·simp at hv hx;subst hv;subst hx;exact .sc _ _ (.bool b)
 ·simp at hv
theorem b7Q (hR:Rel S G g nt s a w) {ok:Bool} {ty:KT} {z:V} {m key:Rand} {t kt et:TypeId} {m' key':Operand} {d:Nat} (h1:MR S G m m') (h2:MR S G key key')
 (hu:S.P.underlying t=some (.map kt et)) (hz:a7g S.P et z) (hf:flat S.P d kt=some ty) (hd:d<=100)
 (e:eff base s.h (rd S.Γ s.t) (.lookup ok ty z m key)=some (v,ws)):ws=[]/\Looks S g a w (.lookup t m' key' ok) v:=by
 have hm:=a0M hR h1
 have hk:=a0M hR h2
 simp only [eff] at e
 split at e
 ·cases e
 ·rename_i ka va l hent
  split at e
  ·cases e
  ·rename_i hcond
   simp only [not_or,ne_eq,Decidable.not_not,Bool.not_eq_false] at hcond
   obtain ⟨hfit,rfl,hva⟩:=hcond
   obtain ⟨kr,klen⟩:=b2H hf hfit hk
   have main:∀ r,find ty.tags (rd S.Γ s.t key).cells 0 l=some r->∃ y b,(Instr.lookup t (a.eval m') (a.eval key') ok).run S.P w=.ok (if ok then .tuple #[y,.bool b] else y) w ∧
    (Told S g va z r y b\/(ok=false/\r=none/\KR S g va z.cells y)):=by
    intro r hr
    obtain ⟨es,L,r',hx,hE,hr',hrr⟩:=b4j hR.hp hm hent hr
    obtain ⟨y,b,hrun,ht⟩:=b1Z (w:=w) (ok:=ok) hu hz hf hd hx hE kr klen hr'
    refine ⟨y,b,hrun,?_⟩
    rcases hrr with rfl|⟨hok,rfl,n,rfl⟩
    ·exact .inl ht
    ·exact .inr ⟨hok,rfl,ht.2⟩
   split at e
   ·rename_i n cs hr
    simp only [Option.map_eq_some_iff] at e
    obtain ⟨v',hv',e⟩:=e
    simp only [Prod.mk.injEq] at e
    obtain ⟨rfl,rfl⟩:=e
    obtain ⟨y,b,hrun,⟨rfl,hkr⟩|⟨_,h,_⟩⟩:=main _ hr
    ·refine ⟨rfl,fun o ho=>⟨_,by simp only [execOp,ho,Sem.run_bind,hrun];rfl,?_⟩⟩
     cases ok with
     | false=>exact b2g hv' hkr
     | true=>exact b6g (b2g hv' hkr)
    ·cases h
   ·rename_i hr
    simp only [Option.some.injEq,Prod.mk.injEq] at e
    obtain ⟨rfl,rfl⟩:=e
    obtain ⟨y,b,hrun,⟨rfl,hkr⟩|⟨rfl,_,hkr⟩⟩:=main _ hr
    ·refine ⟨rfl,fun o ho=>⟨_,by simp only [execOp,ho,Sem.run_bind,hrun];rfl,?_⟩⟩
     cases ok with
     | false=>exact hkr
     | true=>exact b6g (hkr)
    ·refine ⟨rfl,fun o ho=>⟨_,by simp only [execOp,ho,Sem.run_bind,hrun];rfl,?_⟩⟩
     simp only [Bool.false_eq_true,if_false]
     obtain ⟨i,zv,_,_,hKV⟩:=hz
     cases hKV with
     | sc c x hc =>
      have hcc:V.cells (.sc c)=[c]:=by cases hc<;>rfl
      have hv0:va=false:=by rw [← hva];rfl
      subst hv0
      rw [hcc] at hkr
      exact .sc _ _ hkr.a2C
     | agg cs vs hl =>
      have hv0:va=true:=by rw [← hva];rfl
      subst hv0
      obtain ⟨vals,rfl,hl,hr'⟩:=hkr.a2T
      exact .agg _ _ hl hr'
     | undef =>
      obtain ⟨vs,_,hl,h1,_⟩:=hkr
      have hv0:va=false:=by rw [← hva];rfl
      have:=h1 hv0
      simp [V.cells] at this
   ·cases e
end
end Go.Pm
namespace Go.Pm
structure Goes (S:Seat) (G:List Nat) (nt:Nat) (g g':Gh) (s s':St) (a a':Act) (w w':World):Prop where
 le:g.Le g'
 rel:Rel S G g' nt s' a' w'
 keeps:Keeps (Perm g s a w) w w'
 back:∀ b,b<w.heap.size->Perm g' s' a' w' b->Perm g s a w b
 im:∀ b o v,g'.M b o=some v->g.M b o=some v\/w.heap.size<=b\/Perm g s a w b
 mm:∀ b es,g'.N b=some es->g.N b=some es\/w.heap.size<=b\/Perm g s a w b
structure Unclaimed (g:Gh) (s:St) (a:Act) (w:World) (b:Nat):Prop where
 t:∀ i,¬ a0S s.t a.tmps i b
 h:∀ r j,¬ a1e g s.h w r j b
 o:∀ (r:Nat) o,s.h[r]?=some o->live o=true->g.σ r≠b
section
variable {S:Seat} {G:List Nat} {g g' g'':Gh} {nt:Nat} {s s' s'':St} {a a' a'':Act} {w w' w'':World} {h:List Obj}
theorem Goes.refl (hR:Rel S G g nt s a w):Goes S G nt g g s s a a w w :=
 ⟨.refl g,hR,.refl _ w,fun _ _ h=>h,fun _ _ _ h=>.inl h,fun _ _ h=>.inl h⟩
theorem Goes.trans (h:Goes S G nt g g' s s' a a' w w') (k:Goes S G nt g' g'' s' s'' a' a'' w' w''):Goes S G nt g g'' s s'' a a'' w w'' where
 le:=h.le.trans k.le
 rel:=k.rel
 keeps:=h.keeps.trans k.keeps h.back
 back:=fun b hb hp=>h.back b hb (k.back b (Nat.lt_of_lt_of_le hb h.keeps.size) hp)
 im:=fun b o v e=>by
  rcases k.im b o v e with e|e|e
  ·exact h.im b o v e
  ·exact .inr (.inl (Nat.le_trans h.keeps.size e))
  ·by_cases hb:b<w.heap.size
   ·exact .inr (.inr (h.back b hb e))
   ·exact .inr (.inl (by omega))
 mm:=fun b es e=>by
  rcases k.mm b es e with e|e|e
  ·exact h.mm b es e
  ·exact .inr (.inl (Nat.le_trans h.keeps.size e))
  ·by_cases hb:b<w.heap.size
   ·exact .inr (.inr (h.back b hb e))
   ·exact .inr (.inl (by omega))
theorem Goes.grow (hR:Rel S G g nt s a w) (k:Grows g g' w w'):Goes S G nt g g' s s a a w w' where
 le:=k.le
 rel:=hR.grow k
 keeps:=k.keeps.mono fun _ _ h=>h.elim
 back:=fun b hb hp=>by
  rcases hp with (⟨r,o,h1,h2,rfl⟩|⟨r,j,hc⟩)|⟨i,hc⟩
  ·exact .inl (.inl ⟨r,o,h1,h2,(k.le.eq r (hR.hp.lv r o h1 h2)).symm⟩)
  ·exact .inl (.inr ⟨r,j,k.a8G hR.hp hc⟩)
  ·exact .inr ⟨i,hc⟩
 im:=fun b o v e=>by
  rcases k.im b o v e with h|⟨h,_⟩
  ·exact .inl h
  ·exact .inr (.inl h)
 mm:=fun b es e=>by
  rcases k.mm b es e with h|⟨h,_⟩
  ·exact .inl h
  ·exact .inr (.inl h)
theorem a0S.a2X {l:List Nat} {t:List (Nat × V)} {tm:Array Value} {i b:Nat} (hc:a0S (drop l t) tm i b):a0S t tm i b/\i ∉ l:=by
 obtain ⟨p,es,l',ad,n,cap,h1,h2,h3⟩:=hc
 rw [a7T] at h1
 split at h1
 ·exact absurd h1 (a9H _ _ _ _)
 ·rename_i hn
  exact ⟨⟨p,es,l',ad,n,cap,h1,h2,h3⟩,hn⟩
theorem Goes.drop (hR:Rel S G g nt s a w) (l:List Nat):Goes S G nt g g s { t:=drop l s.t,h:=s.h } a a w w where
 le:=.refl g
 rel:=hR.drop l
 keeps:=.refl _ w
 back:=fun b _ hp=>by
  rcases hp with h|⟨i,hc⟩
  ·exact .inl h
  ·exact .inr ⟨i,hc.a2X.1⟩
 im:=fun _ _ _ h=>.inl h
 mm:=fun _ _ h=>.inl h
theorem Goes.put (hR:Rel S G g nt s a w) {dst:Option Nat} {v:V} {x:Value} (hv:RV S g v x) (hd:∀ d,dst=some d->d<nt) :
 Goes S G nt g g s { t:=put1 dst v s.t,h:=s.h } a (a.put dst x) w w where
 le:=.refl g
 rel:=hR.put hv hd
 keeps:=.refl _ w
 back:=fun b _ hp=>by
  rcases hp with h|⟨i,p,es,l,ad,n,cap,h1,h2,h3⟩
  ·exact .inl h
  ·have hd':∀ d,dst=some d->d<a.tmps.size:=fun d e=>by rw [hR.sz];exact hd d e
   have h1':get (put1 dst v s.t) i=.sc (.own p es l):=h1
   rw [a7U] at h1'
   rw [a6Q a dst x i hd'] at h2
   by_cases e:dst=some i
   ·rw [if_pos e] at h1'
    subst h1'
    cases hv with
    | sc _ _ h=>exact absurd rfl (h.a2a _ es l)
   ·rw [if_neg e] at h1' h2
    exact .inr ⟨i,p,es,l,ad,n,cap,h1',h2,h3⟩
 im:=fun _ _ _ h=>.inl h
 mm:=fun _ _ h=>.inl h
theorem Goes.f3K (hR:Rel S G g nt s a w) {dst:Option Nat} (es:Nat) (hd:∀ d,dst=some d->d<nt) :
 Goes S G nt g g s { t:=put1 dst (.sc (.own true es [])) s.t,h:=s.h } a (a.put dst (.slice none 0 0)) w w:=by
 have hd':∀ d,dst=some d->d<a.tmps.size:=fun d e=>by rw [hR.sz];exact hd d e
 have hc:∀ i b,a0S (put1 dst (.sc (.own true es [])) s.t) (a.put dst (.slice none 0 0)).tmps i b->a0S s.t a.tmps i b:=by
  rintro i b ⟨p,es',l,ad,n,cap,h1,h2,h3⟩
  rw [a7U] at h1
  rw [a6Q a dst _ i hd'] at h2
  by_cases e:dst=some i
  ·rw [if_pos e] at h2;cases h2
  ·rw [if_neg e] at h1 h2
   exact ⟨p,es',l,ad,n,cap,h1,h2,h3⟩
 refine ⟨.refl g,⟨hR.hp,by rw [size_put];exact hR.sz,fun i=>?_,fun i i' b c d=>hR.exT i i' b (hc i b c) (hc i' b d),fun i b r j c d=>hR.exTH i b r j (hc i b c) d,
  fun i b r o c e hl=>hR.clT i b r o (hc i b c) e hl⟩,.refl _ w,fun b _ hp=>?_,fun _ _ _ h=>.inl h,fun _ _ h=>.inl h⟩
 ·show RT S g w (get (put1 dst _ s.t) i) _
  rw [a7U,a6Q a dst _ i hd']
  by_cases e:dst=some i
  ·rw [if_pos e,if_pos e];exact .none es
  ·rw [if_neg e,if_neg e];exact hR.tm i
 ·rcases hp with h|⟨i,c⟩
  ·exact .inl h
  ·exact .inr ⟨i,hc i b c⟩
theorem Goes.c2o (hR:Rel S G g nt s a w) {dst:Option Nat} {p:Bool} {es:Nat} {l:List (List C)} {b off cap:Nat} (ho:OwnAt S g w p es l b off cap) (hu:Unclaimed g s a w b) (hd:∀ d,dst=some d->d<nt) :
 Rel S G g nt { t:=put1 dst (.sc (.own p es l)) s.t,h:=s.h } (a.put dst (.slice (some ⟨b,off,none⟩) l.length cap)) w ∧
  ∀ i c,a0S (put1 dst (.sc (.own p es l)) s.t) (a.put dst (.slice (some ⟨b,off,none⟩) l.length cap)).tmps i c->a0S s.t a.tmps i c\/c=b:=by
 have hd':∀ d,dst=some d->d<a.tmps.size:=fun d e=>by rw [hR.sz];exact hd d e
 have hc:∀ i c,a0S (put1 dst (.sc (.own p es l)) s.t) (a.put dst (.slice (some ⟨b,off,none⟩) l.length cap)).tmps i c->(dst≠some i/\a0S s.t a.tmps i c)\/(dst=some i/\c=b):=by
  rintro i c ⟨p',es',l',ad,n,cap',h1,h2,h3⟩
  rw [a7U] at h1
  rw [a6Q a dst _ i hd'] at h2
  by_cases e:dst=some i
  ·rw [if_pos e] at h1 h2
   simp only [Value.slice.injEq,Option.some.injEq] at h2
   obtain ⟨rfl,_⟩:=h2
   exact .inr ⟨e,h3.symm⟩
  ·rw [if_neg e] at h1 h2
   exact .inl ⟨e,p',es',l',ad,n,cap',h1,h2,h3⟩
 refine ⟨⟨hR.hp,by rw [size_put];exact hR.sz,fun i=>?_,fun i i' c d e=>?_,fun i c r j d e=>?_,fun i c r o d e hl=>?_⟩,fun i c d=>?_⟩
 ·show RT S g w (get (put1 dst _ s.t) i) _
  rw [a7U,a6Q a dst _ i hd']
  by_cases e:dst=some i
  ·rw [if_pos e,if_pos e];exact .own _ _ _ _ _ _ ho
  ·rw [if_neg e,if_neg e];exact hR.tm i
 ·rcases hc i c d with ⟨_,d1⟩|⟨hi,hcb⟩
  ·rcases hc i' c e with ⟨_,e1⟩|⟨hi',hcb⟩
   ·exact hR.exT i i' c d1 e1
   ·exact absurd (hcb ▸ d1) (hu.t i)
  ·rcases hc i' c e with ⟨_,e1⟩|⟨hi',_⟩
   ·exact absurd (hcb ▸ e1) (hu.t i')
   ·rw [hi] at hi';exact Option.some.inj hi'
 ·rcases hc i c d with ⟨_,d1⟩|⟨_,hcb⟩
  ·exact hR.exTH i c r j d1 e
  ·exact hu.h r j (hcb ▸ e)
 ·rcases hc i c d with ⟨_,d1⟩|⟨_,hcb⟩
  ·exact hR.clT i c r o d1 e hl
  ·rw [hcb];exact hu.o r o e hl
 ·rcases hc i c d with ⟨_,d1⟩|⟨_,hcb⟩
  ·exact .inl d1
  ·exact .inr hcb
theorem RObj.same {r:Nat} {o:Obj} (hr:h[r]?=some o) (hR:RObj S G g w o (g.σ r)) (hle:g.Le g') (hσ:live o=true->g'.σ r=g.σ r) (h1:live o=true->w'.heap[g.σ r]?=w.heap[g.σ r]?)
 (h2:∀ j b,a1e g h w r j b->w'.heap[b]?=w.heap[b]?/\∀ o,g'.M b o=g.M b o):RObj S G g' w' o (g'.σ r):=by
 cases o with
 | dead=>trivial
 | free=>trivial
 | var cs =>
  rw [hσ rfl]
  obtain ⟨vals,elem,hb,hs,hro⟩:=hR
  refine ⟨vals,elem,by rw [h1 rfl];exact hb,hs,fun j c x e1 e2=>?_⟩
  have:=hro j c x e1 e2
  cases this with
  | rc _ _ hrc=>exact .rc _ _ (hrc.mono hle)
  | own es l b off cap ho =>
   obtain ⟨k1,k2⟩:=h2 j b ⟨cs,es,l,vals,elem,(0,0),⟨b,off,none⟩,l.length,cap,hr,e1,hb,e2,rfl⟩
   exact .own _ _ _ _ _ (ho.mono hle k1 k2)
 | map ka va l ph =>
  rw [hσ rfl]
  obtain ⟨es,hb,h3,h4,h5,h6⟩:=hR
  exact ⟨es,by rw [h1 rfl];exact hb,h3,h4,fun i e m a b=>let ⟨x,y,z⟩:=h5 i e m a b;⟨x.mono hle,y.mono hle,z⟩,fun p z m a b=>let ⟨x,y,z⟩:=h6 p z m a b;⟨x.mono hle,y.mono hle,z⟩⟩
 | set n f =>
  rw [hσ rfl]
  obtain ⟨es,hb,h3,h4⟩:=hR
  exact ⟨es,by rw [h1 rfl];exact hb,h3,h4⟩
 | iter n f =>
  rw [hσ rfl]
  obtain ⟨es,r,hb,h0,h3,h4⟩:=hR
  exact ⟨es,r,by rw [h1 rfl];exact hb,hle.mm _ _ h0,h3,h4⟩
 | loop st pend t ps x y =>
  rw [hσ rfl]
  obtain ⟨L,n,hb,h3,h4,h5,h6,h7,h8,h9,h10⟩:=hR
  exact ⟨L,n,by rw [h1 rfl];exact hb,h3,h4,h5,h6,h7,h8,fun i=>(h9 i).mono hle,h10⟩
theorem a3H {h:List Obj} {p:Nat} {o':Obj} {r:Nat} {o:Obj} (e:(h.set p o')[r]?=some o):(r=p/\o=o'/\p<h.length)\/(r≠p/\h[r]?=some o):=by
 rw [List.getElem?_set] at e
 split at e
 ·rename_i hpr
  subst hpr
  split at e
  ·simp only [Option.some.injEq] at e
   exact .inl ⟨rfl,e.symm,by assumption⟩
  ·cases e
 ·rename_i hpr
  exact .inr ⟨fun h=>hpr h.symm,e⟩
theorem a5p {h:List Obj} {p:Nat} {o':Obj} {r:Nat} (e:r≠p):(h.set p o')[r]?=h[r]?:=by
 rw [List.getElem?_set,if_neg (fun h=>e h.symm)]
theorem Rel.write (hR:Rel S G g nt s a w) {Q:Nat->Prop} (hQ:∀ b,Perm g s a w b->Q b) {p:Nat} {o o':Obj} {takes:List Nat} {off0:Nat} (hp:s.h[p]?=some o) (hl':live o'=true) (hle:g.Le g')
 (hA:∀ r,g'.A r->r=p\/g.A r) (hAp:g'.A p) (hσ:∀ r,r≠p->g'.σ r=g.σ r) (hM:g'.M=g.M) (hN:g'.N=g.N)
 (hf1:∀ (r:Nat) o,s.h[r]?=some o->live o=true->r≠p->g.σ r≠g'.σ p) (hf2:∀ r j b,a1e g s.h w r j b->b≠g'.σ p) (hf3:∀ i b,a0S s.t a.tmps i b->b≠g'.σ p)
 (hf4:∀ k,g.M (g'.σ p) k=none) (hf5:g.N (g'.σ p)=none)
 (hsame:∀ b,b≠g'.σ p->b<w.heap.size->w'.heap[b]?=w.heap[b]?) (hsize:w.heap.size<=w'.heap.size) (hout:w'.output=w.output) (hos:w'.os=w.os) (htape:w'.tape=w.tape)
 (hperm:g'.σ p<w.heap.size->Q (g'.σ p))
 (hob:RObj S G g' w' o' (g'.σ p))
 (hclaim:∀ j b,a1e g' (s.h.set p o') w' p j b->a1e g s.h w p j b\/(j=off0/\∃ i∈takes,a0S s.t a.tmps i b)) :
 Rel S G g' nt { t:=Pm.drop takes s.t,h:=s.h.set p o' } a w'/\Keeps Q w w'/\∀ b,b<w.heap.size->Perm g' { t:=Pm.drop takes s.t,h:=s.h.set p o' } a w' b->Q b:=by
 have hplt:p<s.h.length:=(List.getElem?_eq_some_iff.1 hp).1
 have hsetp:(s.h.set p o')[p]?=some o':=by simp [hplt]
 have hclaimO:∀ r j b,r≠p->a1e g' (s.h.set p o') w' r j b->a1e g s.h w r j b:=by
  rintro r j b hr ⟨cs,es,l,vals,elem,fr,ad,n,cap,h1,h2,h3,h4,rfl⟩
  rw [a5p hr] at h1
  rw [hσ r hr,hsame _ (hf1 r _ h1 rfl hr) (a3e hR.hp h1 rfl)] at h3
  exact ⟨cs,es,l,vals,elem,fr,ad,n,cap,h1,h2,h3,h4,rfl⟩
 have hall:∀ r j b,a1e g' (s.h.set p o') w' r j b->a1e g s.h w r j b\/(r=p/\j=off0/\∃ i∈takes,a0S s.t a.tmps i b):=by
  intro r j b hc
  by_cases hr:r=p
  ·subst hr
   rcases hclaim j b hc with h|⟨h,h2⟩
   ·exact .inl h
   ·exact .inr ⟨rfl,h,h2⟩
  ·exact .inl (hclaimO r j b hr hc)
 have hMw:∀ b o v,g.M b o=some v->w'.heap[b]?=w.heap[b]?:=fun b o v e =>
  hsame b (fun h=>by rw [h,hf4] at e;cases e) (M_lt hR.hp e)
 have hNw:∀ b es,g.N b=some es->w'.heap[b]?=w.heap[b]?:=fun b es e =>
  hsame b (fun h=>by rw [h,hf5] at e;cases e) (N_lt hR.hp e)
 have hlive:∀ (r:Nat) o,(s.h.set p o')[r]?=some o->live o=true->r=p\/(r≠p/\s.h[r]?=some o):=fun r o e _=>by
  rcases a3H e with ⟨h,_⟩|h
  ·exact .inl h
  ·exact .inr h
 have hown:∀ {q es l b off cap},b≠g'.σ p->OwnAt S g w q es l b off cap->OwnAt S g' w' q es l b off cap:=fun hb ho =>
  ho.mono hle (hsame _ hb ho.lt) (fun _=>by rw [hM])
 have hH:RelH S G g' (s.h.set p o') w':=by
  refine ⟨fun r o1 e=>?_,fun r hr=>?_,fun r o1 e hl=>?_,fun r r' o1 o2 e e' hl1 hl2 hs=>?_,fun b k v e=>?_,fun b es e=>?_,fun r o1 e hl k=>?_,fun r o1 e hl=>?_,fun id hid=>(hR.hp.gl id hid).mono hle,fun r j r' j' b c1 c2=>?_,fun r j b r' o1 c e hl=>?_⟩
  ·rcases a3H e with ⟨rfl,rfl,_⟩|⟨hr,e⟩
   ·exact hob
   ·refine RObj.same e (hR.hp.ob r o1 e) hle (fun _=>hσ r hr) (fun hl=>hsame _ (hf1 r o1 e hl hr) (a3e hR.hp e hl)) fun j b hc=>⟨hsame _ (hf2 r j b hc) (a9R hR.hp hc),fun _=>by rw [hM]⟩
  ·by_cases h:r=p
   ·subst h;exact ⟨o',hsetp,by cases o'<;>simp [live,a6U] at hl' ⊢⟩
   ·rw [a5p h]
    exact hR.hp.as r ((hA r hr).resolve_left h)
  ·rcases hlive r o1 e hl with rfl|⟨_,e⟩
   ·exact hAp
   ·exact hle.as r (hR.hp.lv r o1 e hl)
  ·rcases hlive r o1 e hl1 with hrp|⟨hr,e1⟩
   ·rcases hlive r' o2 e' hl2 with hrp' | ⟨hr',e2⟩
    ·rw [hrp,hrp']
    ·rw [hσ r' hr',hrp] at hs;exact absurd hs.symm (hf1 r' o2 e2 hl2 hr')
   ·rcases hlive r' o2 e' hl2 with hrp' | ⟨hr',e2⟩
    ·rw [hσ r hr,hrp'] at hs;exact absurd hs (hf1 r o1 e1 hl1 hr)
    ·rw [hσ r hr,hσ r' hr'] at hs;exact hR.hp.inj r r' o1 o2 e1 e2 hl1 hl2 hs
  ·rw [hM] at e
   have:=hR.hp.im b k v e
   simp only [World.cell?] at this ⊢
   rw [hMw b k v e];exact this
  ·rw [hN] at e
   obtain ⟨n,hn,h0⟩:=hR.hp.mm b es e
   exact ⟨n,by rw [hNw b es e];exact hn,h0⟩
  ·rcases hlive r o1 e hl with rfl|⟨hr,e⟩
   ·rw [hM];exact hf4 k
   ·rw [hM,hσ r hr];exact hR.hp.djM r o1 e hl k
  ·rcases hlive r o1 e hl with rfl|⟨hr,e⟩
   ·rw [hN];exact hf5
   ·rw [hN,hσ r hr];exact hR.hp.djN r o1 e hl
  ·rcases hall r j b c1 with d1|⟨hr1,hj1,i,hi,d1⟩
   ·rcases hall r' j' b c2 with d2|⟨hr2,hj2,i,hi,d2⟩
    ·exact hR.hp.ex r j r' j' b d1 d2
    ·exact (hR.exTH i b r j d2 d1).elim
   ·rcases hall r' j' b c2 with d2|⟨hr2,hj2,i',hi',d2⟩
    ·exact (hR.exTH i b r' j' d1 d2).elim
    ·exact ⟨hr1.trans hr2.symm,hj1.trans hj2.symm⟩
  ·rcases hlive r' o1 e hl with hrp|⟨hr',e1⟩
   ·rw [hrp]
    rcases hall r j b c with d|⟨_,_,i,hi,d⟩
    ·exact fun h=>hf2 r j b d h.symm
    ·exact fun h=>hf3 i b d h.symm
   ·rw [hσ r' hr']
    rcases hall r j b c with d|⟨_,_,i,hi,d⟩
    ·exact hR.hp.cl r j b r' o1 d e1 hl
    ·exact hR.clT i b r' o1 d e1 hl
 refine ⟨⟨hH,hR.sz,fun i=>?_,fun i i' b c d=>hR.exT i i' b c.a2X.1 d.a2X.1,fun i b r j c d=>?_,fun i b r o1 c e hl=>?_⟩,⟨hsize,fun b hb hn=>hsame b (fun h=>hn (h ▸ hperm (h ▸ hb))) hb,hout,hos,htape⟩,fun b hb hp=>?_⟩
 ·show RT S g' w' (get (Pm.drop takes s.t) i) _
  have ht:=hR.tm i
  rw [a7T]
  split
  ·exact .rv _ _ (ht.a0r.mono hle)
  ·generalize hv:get s.t i=v at ht
   generalize hx:a.tmps.getD i undef=x at ht
   cases ht with
   | rv _ _ h=>exact .rv _ _ (h.mono hle)
   | own q es l b off cap ho=>exact .own _ _ _ _ _ _ (hown (hf3 i b ⟨q,es,l,_,_,_,hv,hx,rfl⟩) ho)
   | none es=>exact .none es
 ·obtain ⟨c1,hi⟩:=c.a2X
  rcases hall r j b d with d1|⟨_,_,i',hi',d1⟩
  ·exact hR.exTH i b r j c1 d1
  ·have:=hR.exT i i' b c1 d1
   subst this
   exact hi hi'
 ·obtain ⟨c1,hi⟩:=c.a2X
  rcases hlive r o1 e hl with hrp|⟨hr',e1⟩
  ·rw [hrp];exact fun h=>hf3 i b c1 h.symm
  ·rw [hσ r hr'];exact hR.clT i b r o1 c1 e1 hl
 ·rcases hp with (⟨r,o1,h1,h2,rfl⟩|⟨r,j,hc⟩)|⟨i,hc⟩
  ·rcases hlive r o1 h1 h2 with rfl|⟨hr',e⟩
   ·exact hperm hb
   ·exact hQ _ (.inl (.inl ⟨r,o1,e,h2,(hσ r hr').symm⟩))
  ·rcases hall r j b hc with c|⟨_,_,i,_,c⟩
   ·exact hQ _ (.inl (.inr ⟨r,j,c⟩))
   ·exact hQ _ (.inr ⟨i,c⟩)
  ·exact hQ _ (.inr ⟨i,hc.a2X.1⟩)
theorem Goes.write (hR:Rel S G g nt s a w) {p:Nat} {o o':Obj} {takes:List Nat} {off0:Nat} (hp:s.h[p]?=some o) (hl':live o'=true) (hle:g.Le g')
 (hA:∀ r,g'.A r->r=p\/g.A r) (hAp:g'.A p) (hσ:∀ r,r≠p->g'.σ r=g.σ r) (hM:g'.M=g.M) (hN:g'.N=g.N)
 (hf1:∀ (r:Nat) o,s.h[r]?=some o->live o=true->r≠p->g.σ r≠g'.σ p) (hf2:∀ r j b,a1e g s.h w r j b->b≠g'.σ p) (hf3:∀ i b,a0S s.t a.tmps i b->b≠g'.σ p)
 (hf4:∀ k,g.M (g'.σ p) k=none) (hf5:g.N (g'.σ p)=none)
 (hsame:∀ b,b≠g'.σ p->b<w.heap.size->w'.heap[b]?=w.heap[b]?) (hsize:w.heap.size<=w'.heap.size) (hout:w'.output=w.output) (hos:w'.os=w.os) (htape:w'.tape=w.tape)
 (hperm:g'.σ p<w.heap.size->a9f g s.h w (g'.σ p))
 (hob:RObj S G g' w' o' (g'.σ p))
 (hclaim:∀ j b,a1e g' (s.h.set p o') w' p j b->a1e g s.h w p j b\/(j=off0/\∃ i∈takes,a0S s.t a.tmps i b)) :
 Goes S G nt g g' s { t:=Pm.drop takes s.t,h:=s.h.set p o' } a a w w' :=
 let ⟨h1,h2,h3⟩:=Rel.write hR (Q:=Perm g s a w) (fun _ h=>h) hp hl' hle hA hAp hσ hM hN hf1 hf2 hf3 hf4 hf5 hsame hsize hout hos htape (fun h=>.inl (hperm h)) hob hclaim
 ⟨hle,h1,h2,h3,fun b o v e=>.inl (by rw [← hM];exact e),fun b es e=>.inl (by rw [← hN];exact e)⟩
theorem Goes.modify (hR:Rel S G g nt s a w) {p:Nat} {o o':Obj} {takes:List Nat} {off0:Nat} (hp:s.h[p]?=some o) (hl:live o=true) (hl':live o'=true)
 (hsame:∀ b,b≠g.σ p->w'.heap[b]?=w.heap[b]?) (hsize:w'.heap.size=w.heap.size) (hout:w'.output=w.output) (hos:w'.os=w.os) (htape:w'.tape=w.tape)
 (hob:RObj S G g w' o' (g.σ p))
 (hclaim:∀ j b,a1e g (s.h.set p o') w' p j b->a1e g s.h w p j b\/(j=off0/\∃ i∈takes,a0S s.t a.tmps i b)) :
 Goes S G nt g g s { t:=Pm.drop takes s.t,h:=s.h.set p o' } a a w w' :=
 Goes.write hR hp hl' (.refl g) (fun _ h=>.inr h) (hR.hp.lv p o hp hl) (fun _ _=>rfl) rfl rfl
  (fun r o1 e hl1 hr h=>hr (hR.hp.inj r p o1 o e hp hl1 hl h)) (fun r j b c h=>hR.hp.cl r j b p o c hp hl h.symm) (fun i b c h=>hR.clT i b p o c hp hl h.symm)
  (fun k=>hR.hp.djM p o hp hl k) (hR.hp.djN p o hp hl) (fun b hb _=>hsame b hb) (Nat.le_of_eq hsize.symm) hout hos htape (fun _=>.inl ⟨p,o,hp,hl,rfl⟩) hob hclaim
def Gh.with (g:Gh) (p b:Nat):Gh:={ g with σ:=fun r=>if r=p then b else g.σ r,A:=fun r=>r=p\/g.A r }
theorem Goes.born (hR:Rel S G g nt s a w) {p:Nat} {o':Obj} {takes:List Nat} {off0:Nat} {ob:Go.Obj} (hp:s.h[p]?=some .free) (hl':live o'=true)
 (hob:RObj S G (g.with p w.heap.size) (w.alloc ob) o' w.heap.size)
 (hclaim:∀ j b,a1e (g.with p w.heap.size) (s.h.set p o') (w.alloc ob) p j b->j=off0/\∃ i∈takes,a0S s.t a.tmps i b) :
 Goes S G nt g (g.with p w.heap.size) s { t:=Pm.drop takes s.t,h:=s.h.set p o' } a a w (w.alloc ob):=by
 have hσp:(g.with p w.heap.size).σ p=w.heap.size:=by simp [Gh.with]
 have hne:∀ r,g.A r->r≠p:=fun r hA h=>by
  subst h
  obtain ⟨o,ho,hf⟩:=hR.hp.as r hA
  rw [hp] at ho
  simp only [Option.some.injEq] at ho
  subst ho
  simp [a6U] at hf
 refine Goes.write hR hp hl' ⟨fun r h=>.inr h,fun r h=>by simp [Gh.with,hne r h],fun _ _ _ h=>h,fun _ _ h=>h⟩ (fun _ h=>h) (.inl rfl) (fun r hr=>by simp [Gh.with,hr]) rfl rfl
  (fun r o1 e hl1 _ h=>?_) (fun r j b c h=>?_) (fun i b c h=>?_) (fun k=>?_) ?_ (fun b hb hlt=>a8K w ob b hlt) (by simp) rfl rfl rfl (fun h=>?_) (by rw [hσp];exact hob) (fun j b c=>.inr (hclaim j b c))
 ·have:=a3e hR.hp e hl1;rw [hσp] at h;omega
 ·have:=a9R hR.hp c;rw [hσp] at h;omega
 ·have:=a8e hR c;rw [hσp] at h;omega
 ·rw [hσp]
  cases e:g.M w.heap.size k with
  | none=>rfl
  | some v=>have:=M_lt hR.hp e;omega
 ·rw [hσp]
  cases e:g.N w.heap.size with
  | none=>rfl
  | some v=>have:=N_lt hR.hp e;omega
 ·rw [hσp] at h;omega
theorem Goes.extend (hR:Rel S G g nt s a w) {i b:Nat} (hc:a0S s.t a.tmps i b) (hσ:g'.σ=g.σ) (hA:g'.A=g.A) (hN:g'.N=g.N) (hM:∀ b' o v,g.M b' o=some v->g'.M b' o=some v)
 (hMo:∀ b' o,b'≠b->g'.M b' o=g.M b' o) (him:∀ o v,g'.M b o=some v->w'.cell? ⟨b,o,none⟩=some v) (hcell:∃ cs elem fr,w.heap[b]?=some (.cells cs elem fr))
 (hsame:∀ b',b'≠b->w'.heap[b']?=w.heap[b']?) (hsize:w'.heap.size=w.heap.size) (hout:w'.output=w.output) (hos:w'.os=w.os) (htape:w'.tape=w.tape) :
 Goes S G nt g g' s { t:=Pm.drop [i] s.t,h:=s.h } a a w w'/\Unclaimed g' { t:=Pm.drop [i] s.t,h:=s.h } a w' b:=by
 have hle:g.Le g':=⟨fun r h=>by rw [hA];exact h,fun r _=>by rw [hσ],hM,fun b es h=>by rw [hN];exact h⟩
 have hlv:∀ (r:Nat) o,s.h[r]?=some o->live o=true->g.σ r≠b:=fun r o e hl=>hR.clT i b r o hc e hl
 have hcH:∀ r j c,a1e g' s.h w' r j c->a1e g s.h w r j c:=by
  rintro r j c ⟨cs,es,l,vals,elem,fr,ad,n,cap,h1,h2,h3,h4,rfl⟩
  rw [hσ,hsame _ (hlv r _ h1 rfl)] at h3
  exact ⟨cs,es,l,vals,elem,fr,ad,n,cap,h1,h2,h3,h4,rfl⟩
 have hH:RelH S G g' s.h w':=by
  refine ⟨fun r o1 e=>?_,fun r hr=>hR.hp.as r (by rw [hA] at hr;exact hr),fun r o1 e hl=>by rw [hA];exact hR.hp.lv r o1 e hl,fun r r' o1 o2 e e' hl1 hl2 hs=>hR.hp.inj r r' o1 o2 e e' hl1 hl2 (by rw [hσ] at hs;exact hs),fun c k v e=>?_,fun c es e=>?_,
   fun r o1 e hl k=>by rw [hσ,hMo _ _ (hlv r o1 e hl)];exact hR.hp.djM r o1 e hl k,fun r o1 e hl=>by rw [hσ,hN];exact hR.hp.djN r o1 e hl,fun id hid=>(hR.hp.gl id hid).mono hle,fun r j r' j' c c1 c2=>hR.hp.ex r j r' j' c (hcH _ _ _ c1) (hcH _ _ _ c2),
   fun r j c r' o1 c1 e hl=>by rw [hσ];exact hR.hp.cl r j c r' o1 (hcH _ _ _ c1) e hl⟩
  ·refine RObj.same e (hR.hp.ob r o1 e) hle (fun _=>by rw [hσ]) (fun hl=>hsame _ (hlv r o1 e hl)) fun j c hcl=>?_
   have:c≠b:=fun h=>hR.exTH i b r j hc (h ▸ hcl)
   exact ⟨hsame c this,fun o=>hMo c o this⟩
  ·by_cases hb:c=b
   ·subst hb;exact him k v e
   ·rw [hMo c k hb] at e
    have:=hR.hp.im c k v e
    simp only [World.cell?] at this ⊢
    rw [hsame c hb];exact this
  ·rw [hN] at e
   obtain ⟨n,hn,h0⟩:=hR.hp.mm c es e
   refine ⟨n,?_,h0⟩
   have:c≠b:=by
    rintro rfl
    obtain ⟨cs,elem,fr,h⟩:=hcell
    rw [h] at hn
    cases hn
   rw [hsame c this];exact hn
 refine ⟨⟨hle,⟨hH,hR.sz,fun j=>?_,fun j j' c d e=>hR.exT j j' c d.a2X.1 e.a2X.1,fun j c r k d e=>hR.exTH j c r k d.a2X.1 (hcH _ _ _ e),fun j c r o1 d e hl=>by rw [hσ];exact hR.clT j c r o1 d.a2X.1 e hl⟩,
  ⟨Nat.le_of_eq hsize.symm,fun c _ hn=>hsame c (fun h=>hn (.inr ⟨i,h ▸ hc⟩)),hout,hos,htape⟩,fun c _ hp=>?_,fun c o v e=>?_,fun c es e=>.inl (by rw [← hN];exact e)⟩,?_⟩
 ·show RT S g' w' (get (Pm.drop [i] s.t) j) _
  have ht:=hR.tm j
  rw [a7T]
  split
  ·exact .rv _ _ (ht.a0r.mono hle)
  ·rename_i hj
   generalize hv:get s.t j=v at ht
   generalize hx:a.tmps.getD j undef=x at ht
   cases ht with
   | rv _ _ h=>exact .rv _ _ (h.mono hle)
   | none es=>exact .none es
   | own q es l c off cap ho =>
    have hcb:c≠b:=by
     rintro rfl
     exact hj (by rw [hR.exT j i c ⟨q,es,l,_,_,_,hv,hx,rfl⟩ hc];simp)
    exact .own _ _ _ _ _ _ (ho.mono hle (hsame c hcb) (fun o=>hMo c o hcb))
 ·rcases hp with (⟨r,o1,h1,h2,rfl⟩|⟨r,j,hc'⟩)|⟨j,hc'⟩
  ·exact .inl (.inl ⟨r,o1,h1,h2,by rw [hσ]⟩)
  ·exact .inl (.inr ⟨r,j,hcH _ _ _ hc'⟩)
  ·exact .inr ⟨j,hc'.a2X.1⟩
 ·by_cases hb:c=b
  ·subst hb;exact .inr (.inr (.inr ⟨i,hc⟩))
  ·rw [hMo c o hb] at e;exact .inl e
 ·refine ⟨fun j hj=>?_,fun r j hj=>hR.exTH i b r j hc (hcH _ _ _ hj),fun r o1 e hl=>by rw [hσ];exact hlv r o1 e hl⟩
  obtain ⟨h1,h2⟩:=hj.a2X
  exact h2 (by rw [hR.exT j i b h1 hc];simp)
end
end Go.Pm
namespace Go.Pm
inductive Val (S:Seat) (g:Gh) (s:St) (a:Act) (w:World) (p:Nat->Prop):V->Value->Prop
 | rv (v:V) (x:Value) (h:RV S g v x):Val S g s a w p v x
 | own (q:Bool) (es:Nat) (l:List (List C)) (b off cap:Nat) (h:OwnAt S g w q es l b off cap) (hu:Unclaimed g s a w b) (hp:p b):Val S g s a w p (.sc (.own q es l)) (.slice (some ⟨b,off,none⟩) l.length cap)
 | none (es:Nat):Val S g s a w p (.sc (.own true es [])) (.slice none 0 0)
def Does (S:Seat) (G:List Nat) (nt:Nat) (g:Gh) (s:St) (a:Act) (w:World) (o:Go.Op) (takes:List Nat) (v:V) (h:List Obj):Prop :=
 ∀ o':Go.Oper,o'.op=o->∃ x n w' g',(execOp a.eval o').run S.P w=.ok n w'/\(n=.value x\/(n=.skip/\x=undef))/\Goes S G nt g g' s { t:=drop takes s.t,h:=h } a a w w' ∧
  Val S g' { t:=drop takes s.t,h:=h } a w' (fun b=>b<w.heap.size->Perm g s a w b) v x
section
variable {S:Seat} {G:List Nat} {g g' g'':Gh} {nt:Nat} {s s' s'':St} {a a' a'':Act} {w w' w'':World} {h:List Obj} {base:Nat} {v:V} {ws:List (Nat × Obj)} {takes:List Nat}
theorem Goes.val {p:Nat->Prop} (hg:Goes S G nt g g' s s' a a w w') {x:Value} (hv:Val S g' s' a w' p v x) (hp:∀ b,p b->b<w.heap.size->Perm g s a w b) {dst:Option Nat} (hd:∀ d,dst=some d->d<nt) :
 Goes S G nt g g' s { t:=put1 dst v s'.t,h:=s'.h } a (a.put dst x) w w':=by
 cases hv with
 | rv _ _ h=>exact hg.trans (.put hg.rel h hd)
 | none es=>exact hg.trans (.f3K hg.rel es hd)
 | own q es l b off cap ho hu hpb =>
  obtain ⟨h1,h2⟩:=Goes.c2o hg.rel ho hu hd
  refine ⟨hg.le,h1,hg.keeps,fun c hc hpm=>?_,hg.im,hg.mm⟩
  rcases hpm with h|⟨i,hci⟩
  ·exact hg.back c hc (.inl h)
  ·rcases h2 i c hci with h|rfl
   ·exact hg.back c hc (.inr ⟨i,h⟩)
   ·exact hp c hpb hc
theorem Does.step {o:Go.Op} (hd:Does S G nt g s a w o takes v h) {o':Go.Oper} (ho:o'.op=o) {dst:Option Nat} (hdst:∀ d,dst=some d->d<nt) :
 ∃ x n w' g',(execOp a.eval o').run S.P w=.ok n w'/\(n=.value x\/(n=.skip/\x=undef))/\Goes S G nt g g' s { t:=put1 dst v (drop takes s.t),h:=h } a (a.put dst x) w w':=by
 obtain ⟨x,n,w',g',h1,h2,h3,h4⟩:=hd o' ho
 exact ⟨x,n,w',g',h1,h2,h3.val h4 (fun b hb=>hb) hdst⟩
theorem drop_nil (t:List (Nat × V)):drop [] t=t:=rfl
theorem Looks.does (hR:Rel S G g nt s a w) {o:Go.Op} (hl:Looks S g a w o v):Does S G nt g s a w o [] v s.h:=fun o' ho =>
 let ⟨x,h1,h2⟩:=hl o' ho
 ⟨x,_,w,g,h1,.inl rfl,.refl hR,.rv _ _ h2⟩
theorem a8u (hR:Rel S G g nt s a w) {i b:Nat} (hc:a0S s.t a.tmps i b):Unclaimed g { t:=drop [i] s.t,h:=s.h } a w b where
 t:=fun j hj=>by
  obtain ⟨h1,h2⟩:=hj.a2X
  exact h2 (by rw [hR.exT j i b h1 hc];simp)
 h:=fun r j hj=>hR.exTH i b r j hc hj
 o:=fun r o e hl=>hR.clT i b r o hc e hl
theorem b6e (hR:Rel S G g nt s a w) {x:Rand} {x':Operand} {o:Go.Op} (h1:MT S G x x') (ho:o=.move x'\/o=.assign x') (e:eff base s.h (rd S.Γ s.t) (.mv x)=some (v,ws)) :
 ws=[]/\Does S G nt g s a w o x.takes v s.h:=by
 simp only [eff,Option.some.injEq,Prod.mk.injEq] at e
 obtain ⟨rfl,rfl⟩:=e
 have hrun:∀ o':Go.Oper,o'.op=o->(execOp a.eval o').run S.P w=.ok (.value (a.eval x')) w:=fun o' ho'=>by
  rcases ho with rfl|rfl<;>simp [execOp,ho']
 refine ⟨rfl,fun o' ho'=>?_⟩
 cases h1 with
 | r _ _ h =>
  have ht:x.takes=[]:=by cases h<;>rfl
  rw [ht]
  exact ⟨_,_,w,g,hrun o' ho',.inl rfl,.refl hR,.rv _ _ (a0M hR h)⟩
 | tk i =>
  refine ⟨_,_,w,g,hrun o' ho',.inl rfl,.drop hR [i],?_⟩
  have ht:=hR.tm i
  show Val S g _ a w _ (get s.t i) (a.tmps.getD i undef)
  generalize hv:get s.t i=v at ht
  generalize hx:a.tmps.getD i undef=x at ht
  cases ht with
  | rv _ _ h=>exact .rv _ _ h
  | none es=>exact .none es
  | own p es l b off cap ho' =>
   have hc:a0S s.t a.tmps i b:=⟨p,es,l,_,_,_,hv,hx,rfl⟩
   exact .own _ _ _ _ _ _ ho' (a8u hR hc) (fun _=>.inr ⟨i,hc⟩)
/-! ### Cells written one by one -/
theorem a7r:∀ (vs cs:List C) (off:Nat),(a1H cs off vs).length=cs.length
 | [],_,_=>rfl
 | v::vs,cs,off=>by simp [a1H,a7r vs]
theorem a7z:∀ (vs cs:List C) (off j:Nat),off+vs.length<=cs.length->(a1H cs off vs)[j]?=if off<=j/\j<off+vs.length then vs[j - off]? else cs[j]?
 | [],cs,off,j,_=>by
  have:¬ (off<=j/\j<off+0):=by omega
  simp only [a1H,List.length_nil,if_neg this]
 | v::vs,cs,off,j,h=>by
  simp only [List.length_cons] at h
  rw [a1H,a7z vs (cs.set off v) (off+1) j (by simp;omega)]
  by_cases hj:j=off
  ·subst hj
   have h1:¬ (j+1<=j/\j<j+1+vs.length):=by omega
   have h2:j<=j/\j<j+(v::vs).length:=by simp
   rw [if_neg h1,if_pos h2]
   rw [List.getElem?_set_self (by omega)]
   simp
  ·have h3:off≠j:=fun h=>hj h.symm
   by_cases hc:off+1<=j/\j<off+1+vs.length
   ·have h2:off<=j/\j<off+(v::vs).length:=by simp;omega
    rw [if_pos hc,if_pos h2,show j - off=(j - (off+1))+1 from by omega]
    simp
   ·have h2:¬ (off<=j/\j<off+(v::vs).length):=by simp;omega
    rw [if_neg hc,if_neg h2,List.getElem?_set_ne h3]
theorem b4o:∀ (vs:List Value) (k:Nat) (cells:Array Value) (off j:Nat),off+k+vs.length<=cells.size →
 ((vs.zipIdx k).foldl (fun cs (p:Value × Nat)=>cs.setIfInBounds (off+p.2) p.1) cells)[j]?=if off+k<=j/\j<off+k+vs.length then vs[j - (off+k)]? else cells[j]?
 | [],k,cells,off,j,_=>by
  have:¬ (off+k<=j/\j<off+k+0):=by omega
  simp only [List.zipIdx_nil,List.foldl_nil,List.length_nil,if_neg this]
 | v::vs,k,cells,off,j,h=>by
  simp only [List.length_cons] at h
  rw [List.zipIdx_cons,List.foldl_cons,b4o vs (k+1) _ off j (by simp;omega)]
  by_cases hj:j=off+k
  ·subst hj
   have h1:¬ (off+(k+1)<=off+k/\off+k<off+(k+1)+vs.length):=by omega
   have h2:off+k<=off+k/\off+k<off+k+(v::vs).length:=by simp
   rw [if_neg h1,if_pos h2]
   have:off+k<cells.size:=by omega
   simp [this]
  ·have h3:off+k≠j:=fun h=>hj h.symm
   by_cases hc:off+(k+1)<=j/\j<off+(k+1)+vs.length
   ·have h2:off+k<=j/\j<off+k+(v::vs).length:=by simp;omega
    rw [if_pos hc,if_pos h2,show j - (off+k)=(j - (off+(k+1)))+1 from by omega]
    simp
   ·have h2:¬ (off+k<=j/\j<off+k+(v::vs).length):=by simp;omega
    rw [if_neg hc,if_neg h2]
    simp [h3]
theorem fold_size:∀ (vs:List Value) (k:Nat) (cells:Array Value) (off:Nat),((vs.zipIdx k).foldl (fun cs (p:Value × Nat)=>cs.setIfInBounds (off+p.2) p.1) cells).size=cells.size
 | [],k,cells,off=>rfl
 | v::vs,k,cells,off=>by rw [List.zipIdx_cons,List.foldl_cons,fold_size vs];simp
def Cells (S:Seat) (g:Gh) (cs:List C) (vals:Array Value):Prop:=cs.length=vals.size/\∀ (j:Nat) c x,cs[j]?=some c->vals[j]?=some x->RC S g c x
theorem a9g {v:V} {x:Value} (h:RV S g v x) (hn:0<v.cells.length):Cells S g v.cells x.cells :=
 h.cells (by rintro rfl;simp [V.cells] at hn) (by rintro vs rfl;simp [V.cells] at hn)
theorem Cells.set {cs vs:List C} {vals xs:Array Value} {off:Nat} (h:Cells S g cs vals) (hv:Cells S g vs xs) (hle:off+vs.length<=cs.length) :
 Cells S g (a1H cs off vs) (xs.zipIdx.foldl (fun cs (p:Value × Nat)=>cs.setIfInBounds (off+p.2) p.1) vals):=by
 have e:xs.zipIdx.foldl (fun cs (p:Value × Nat)=>cs.setIfInBounds (off+p.2) p.1) vals=(xs.toList.zipIdx 0).foldl (fun cs (p:Value × Nat)=>cs.setIfInBounds (off+p.2) p.1) vals:=by
  rw [← Array.foldl_toList];simp
 rw [e]
 have hlen:xs.toList.length=vs.length:=by simp [hv.1]
 refine ⟨by rw [a7r,fold_size];exact h.1,fun j c x h1 h2=>?_⟩
 rw [a7z _ _ _ _ hle] at h1
 rw [b4o _ _ _ _ _ (by rw [hlen, ← h.1];exact hle),hlen] at h2
 simp only [Nat.add_zero] at h2
 split at h1
 ·rename_i hc
  rw [if_pos hc] at h2
  exact hv.2 _ _ _ h1 (by simpa using h2)
 ·rename_i hc
  rw [if_neg hc] at h2
  exact h.2 _ _ _ h1 h2
theorem b4l {f:Nat->Option (Nat × Nat)}:∀ (ps:List (Nat × Nat × V)) (parts:List (Nat × Value)) (zs cs:List C) (vals:Array Value),(ps.map fun p=>some (p.1,p.2.1))=(parts.map fun p=>f p.1) →
 (∀ (j:Nat) p q,ps[j]?=some p->parts[j]?=some q->RV S g p.2.2 q.2)->Cells S g zs vals->a3a zs ps=some cs->∃ vals',Instr.fill f vals parts=some vals'/\Cells S g cs vals'
 | [],parts,zs,cs,vals,hp,_,hz,e=>by
  cases parts with
  | cons=>simp at hp
  | nil =>
   simp only [a3a,Option.some.injEq] at e
   subst e
   exact ⟨vals,rfl,hz⟩
 | (off,n,v)::ps,parts,zs,cs,vals,hp,hr,hz,e=>by
  cases parts with
  | nil=>simp at hp
  | cons q parts =>
   obtain ⟨i,x⟩:=q
   simp only [List.map_cons,List.cons.injEq] at hp
   simp only [a3a] at e
   split at e
   ·rename_i hc
    obtain ⟨hn,hpos,hle⟩:=hc
    have hv:RV S g v x:=hr 0 _ _ rfl rfl
    have hcl:=a9g hv (by omega)
    obtain ⟨vals',h1,h2⟩:=b4l ps parts _ cs _ hp.2 (fun j p q a b=>hr (j+1) p q (by simpa using a) (by simpa using b)) (hz.set hcl (off:=off) (by omega)) e
    refine ⟨vals',?_,h2⟩
    have hsz:x.cells.size=n:=by rw [← hcl.1,hn]
    have hle':¬ (off+x.cells.size > vals.size):=by rw [hsz, ← hz.1];omega
    simp only [Instr.fill, ← hp.1]
    rw [if_neg (by simp [hsz];rw [← hz.1];omega)]
    exact h1
   ·cases e
theorem b4N (hR:Rel S G g nt s a w) {α:Type} {ps:List α} {fv:α->Rand} {ps':List (Nat × Operand)} (hm:MRs S G (ps.map fv) (ps'.map (·.2))) {j:Nat} {p:α} {q:Nat × Operand}
 (h1:ps[j]?=some p) (h2:ps'[j]?=some q):RV S g (rd S.Γ s.t (fv p)) (a.eval q.2) :=
 b1r hR hm j _ _ (by simp [h1]) (by simp [h2])
theorem run_places {P:Program} {w:World}:∀ (fs:List Field),(∀ x∈fs,(P.info? x.type).isSome) →
 (fs.mapM (fun f=>do pure (f.offset, ← sizeOf f.type):Field->Sem (Nat × Nat))).run P w=.ok (fs.map fun f=>(f.offset,P.cellsOf f.type)) w
 | [],_=>by simp
 | f::fs,h=>by
  have ih:=run_places (w:=w) fs (fun x hx=>h x (by simp [hx]))
  obtain ⟨i,hi⟩:=Option.isSome_iff_exists.1 (h f (by simp))
  simp only [List.mapM_cons,Sem.run_bind,run_sizeOf w hi,Result.andThen_ok,Sem.run_pure,ih,List.map_cons]
theorem b8B (hR:Rel S G g nt s a w) {z:List C} {ps:List (Nat × Nat × Rand)} {t:TypeId} {ps':Array (Nat × Operand)} (hz:a5G S.P t z)
    (hp:∃ f:Nat->Option (Nat × Nat),(ps.map fun p=>some (p.1,p.2.1))=(ps'.toList.map fun p=>f p.1) ∧
      ((∃ fs,S.P.underlying t=some (.struct fs)/\(∀ x∈fs,(S.P.info? x.type).isSome)/\f=fun i=>fs[i]?.map fun x=>(x.offset,S.P.cellsOf x.type)) ∨
       (∃ len e,S.P.underlying t=some (.array len e)/\(S.P.info? e).isSome/\f=fun i=>some (i*S.P.cellsOf e,S.P.cellsOf e))))
    (hr:MRs S G (ps.map (·.2.2)) (ps'.toList.map (·.2))) (e:eff base s.h (rd S.Γ s.t) (.build z ps)=some (v,ws)):ws=[]/\Looks S g a w (.build t ps') v:=by
  simp only [eff,Option.map_eq_some_iff,Prod.mk.injEq] at e
  obtain ⟨cs,hcs,rfl,rfl⟩:=e
  obtain ⟨i,zv,hi,hzv,hzl,hzr⟩:=hz
  obtain ⟨f,hf,hcase⟩:=hp
  have hz0:Cells S g z zv.cells:=⟨by simpa using hzl,fun j c x h1 h2=>(hzr j c x h1 (by simpa using h2)).rc⟩
  obtain ⟨vals,hfill,hcl⟩:=b4l (S:=S) (g:=g) (f:=f) (ps.map fun p=>(p.1,p.2.1,rd S.Γ s.t p.2.2)) (ps'.toList.map fun p=>(p.1,a.eval p.2)) z cs zv.cells
    (by simpa [List.map_map,Function.comp_def] using hf) (fun j p q h1 h2=>by
      simp only [List.getElem?_map,Option.map_eq_some_iff] at h1 h2
      obtain ⟨p0,hp0,rfl⟩:=h1
      obtain ⟨q0,hq0,rfl⟩:=h2
      exact b4N hR (fv:=fun p=>p.2.2) hr hp0 hq0) hz0 hcs
  refine ⟨rfl,fun o' ho'=>⟨.agg vals,?_,.agg _ _ hcl.1 hcl.2⟩⟩
  have hparts:(ps'.map fun p=>(p.1,a.eval p.2)).toList=ps'.toList.map fun p=>(p.1,a.eval p.2):=by simp
  rcases hcase with ⟨fs,hu,hinfo,rfl⟩|⟨len,el,hu,hinfo,rfl⟩
  · have hpl:=run_places (P:=S.P) (w:=w) fs.toList (fun x hx=>hinfo x (Array.mem_toList_iff.1 hx))
    have hpl':(fs.mapM (fun f=>do pure (f.offset, ← sizeOf f.type):Field->Sem (Nat × Nat))).run S.P w=.ok (fs.map fun f=>(f.offset,S.P.cellsOf f.type)) w:=by
      rw [Array.mapM_eq_mapM_toList]
      rw [← bind_pure_comp,Sem.run_bind,hpl,Result.andThen_ok,Sem.run_pure]
      congr 1
      apply Array.ext'
      simp
    have hfill':Instr.fill ((fs.map fun f=>(f.offset,S.P.cellsOf f.type))[·]?) zv.cells (ps'.toList.map fun p=>(p.1,a.eval p.2))=some vals:=by
      rw [← hfill];congr 1;funext i;simp
    simp only [execOp,ho',Instr.build,Sem.run_bind,a3B hi hzv,Result.andThen_ok,run_underlying hu,hpl',hparts,hfill',Sem.run_pure]
  · obtain ⟨ie,hie⟩:=Option.isSome_iff_exists.1 hinfo
    simp only [execOp,ho',Instr.build,Sem.run_bind,a3B hi hzv,Result.andThen_ok,run_underlying hu,run_sizeOf w hie,hparts,hfill,Sem.run_pure]
end
end Go.Pm
