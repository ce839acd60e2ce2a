/- The statement PracticeWell, part 8. -/
import Derived.Test.YtdockaglpfejhaaGreatDoorPracticeWellL7
set_option linter.all false
set_option maxRecDepth 100000
namespace Go.Pm.St
abbrev Book.dd (b:Book) (ds:List Day):Book:={ b with kd:=.shared,days:=ds }
structure Less (o:Int) (ds ds':List Day):Prop where
 len:ds'.length=ds.length
 less:∀ (d:Nat) z z',ds[d]?=some z->ds'[d]?=some z'->z'.plain<=z.plain/\z'.full=z.full/\z'.needs<=z.needs/\((d:Int)<o->z'.plain=z.plain)
theorem Less.get {o:Int} {ds ds':List Day} (h:Less o ds ds') (d:Nat):(ds[d]?=none/\ds'[d]?=none)\/∃ z z',ds[d]?=some z/\ds'[d]?=some z'/\z'.plain<=z.plain/\z'.full=z.full/\z'.needs<=z.needs/\((d:Int)<o->z'.plain=z.plain):=by
 by_cases hd:d<ds.length
 ·right
  have hd':d<ds'.length:=by have:=h.len;omega
  exact ⟨_,_,List.getElem?_eq_getElem hd,List.getElem?_eq_getElem hd',h.less d _ _ (List.getElem?_eq_getElem hd) (List.getElem?_eq_getElem hd')⟩
 ·exact .inl ⟨List.getElem?_eq_none (by omega),List.getElem?_eq_none (by have:=h.len;omega)⟩
theorem g1i {o:Int} {ds ds':List Day} (h:Less o ds ds') {c:Cost} {s:Int} {r:Nat->Bool}:∀ d:Nat,(d:Int)<=o->nowAt ds' c s r d=nowAt ds c s r d
 | 0,_=>rfl
 | d+1,hd=>by
  have ih:=g1i h (c:=c) (s:=s) (r:=r) d (by omega)
  rcases h.get d with ⟨e1,e2⟩|⟨z,z',e1,e2,h1,h2,h3,h4⟩
  ·simp only [nowAt,e1,e2,ih]
  ·simp only [nowAt,e1,e2,ih,Day.after,h2,h4 (by omega)]
theorem g1e {o:Int} {ds ds':List Day} (h:Less o ds ds') {c:Cost} {s:Int} {r:Nat->Bool} (d:Nat) (hd:(d:Int)<o):a2B ds' c s r d=a2B ds c s r d:=by
 have ih:=g1i h (c:=c) (s:=s) (r:=r) d (by omega)
 rcases h.get d with ⟨e1,e2⟩|⟨z,z',e1,e2,h1,h2,h3,h4⟩
 ·simp only [a2B,e1,e2,ih]
 ·simp only [a2B,e1,e2,ih,Day.after,h2,h4 hd]
theorem g1d {z z':Day} (h1:z'.plain<=z.plain) (h2:z'.full=z.full) {c:Cost} (hp:0<=c.p) {r:Bool} {n n':Int} (hn:n<=n'):z.after c r n<=z'.after c r n':=by
 have:=Int.mul_le_mul_of_nonneg_right h1 hp
 simp only [Day.after,h2]
 split<;>omega
theorem g1m {o:Int} {ds ds':List Day} (h:Less o ds ds') {c:Cost} (hp:0<=c.p) {s:Int} {r:Nat->Bool}:∀ d:Nat,nowAt ds c s r d<=nowAt ds' c s r d
 | 0=>Int.le_refl _
 | d+1=>by
  have ih:=g1m h hp (s:=s) (r:=r) d
  rcases h.get d with ⟨e1,e2⟩|⟨z,z',e1,e2,h1,h2,h3,h4⟩
  ·simp only [nowAt,e1,e2];exact ih
  ·have:=g1d h1 h2 hp (r:=r d) ih
   simp only [nowAt,e1,e2];omega
theorem g1B {o:Int} {ds ds':List Day} (h:Less o ds ds') {c:Cost} (hp:0<=c.p) {s:Int} {r:Nat->Bool} (d:Nat):a2B ds c s r d<=a2B ds' c s r d:=by
 have ih:=g1m h hp (s:=s) (r:=r) d
 rcases h.get d with ⟨e1,e2⟩|⟨z,z',e1,e2,h1,h2,h3,h4⟩
 ·simp only [a2B,e1,e2];exact ih
 ·have:=g1d h1 h2 hp (r:=r d) ih
  simp only [a2B,e1,e2];omega
theorem g1A {o:Int} {ds ds':List Day} (h:Less o ds ds') (d:Nat):a5d ds' d=a5d ds d:=by
 rcases h.get d with ⟨e1,e2⟩|⟨z,z',e1,e2,h1,h2,h3,h4⟩
 ·simp only [a5d,e1,e2]
 ·simp only [a5d,e1,e2,h2]
theorem g1v {o:Int} {ds ds':List Day} (h:Less o ds ds') (r:Nat->Bool) (d:Nat):third ds' r d=third ds r d:=by
 simp only [third,g1A h]
theorem g1r {l:List Sign} {x:Sign} (h:x∈l):x.day<a2b l:=by
 have key:∀ (l:List Sign) (n:Int),n<=l.foldl (fun n x=>max n (x.day+1)) n/\∀ x∈l,x.day+1<=l.foldl (fun n x=>max n (x.day+1)) n:=by
  intro l
  induction l with
  | nil=>intro n;exact ⟨Int.le_refl _,fun x hx=>by cases hx⟩
  | cons y l ih =>
   intro n
   obtain ⟨h1,h2⟩:=ih (max n (y.day+1))
   simp only [List.foldl_cons]
   refine ⟨by omega,fun x hx=>?_⟩
   rcases List.mem_cons.1 hx with rfl|hx
   ·omega
   ·exact h2 x hx
 have:=(key l 0).2 x h
 simp only [a2b];omega
theorem g1G {b:Book} {ds ds':List Day} (h:Less (a2b b.signs) ds ds') (hs:Sane (b.dd ds)) {c:Cost} {st:Nat->Int} (w:Can (b.dd ds) c st):Can (b.dd ds') c st:=by
 refine ⟨w.c0,w.c1,w.c2,w.str,fun j x hx hb=>?_⟩
 have hf:=w.sg j x hx hb
 have hm:x∈b.signs:=List.mem_of_getElem? hx
 have hd:=g1r hm
 have h0:=(hs.sg x hm).2.1
 simp only [Book.fair] at hf ⊢
 rw [g1e h x.day.toNat (by omega)]
 exact hf
theorem g1z {b:Book} {ds ds':List Day} (h:Less (a2b b.signs) ds ds') (hs:Sane (b.dd ds)) {c:Cost} {st:Nat->Int} (w:Can (b.dd ds') c st):Can (b.dd ds) c st:=by
 refine ⟨w.c0,w.c1,w.c2,w.str,fun j x hx hb=>?_⟩
 have hf:=w.sg j x hx hb
 have hm:x∈b.signs:=List.mem_of_getElem? hx
 have hd:=g1r hm
 have h0:=(hs.sg x hm).2.1
 simp only [Book.fair] at hf ⊢
 rw [g1e h x.day.toNat (by omega)] at hf
 exact hf
theorem g0W {b:Book} {l:List Rest}:(b.safe l).1=true<->b.err (b.a4k l)=0/\b.b5J (a1M b.F l)=true/\b.enough (a1M b.F l)=true:=by
 unfold Book.safe
 split
 ·rename_i h;simp [h]
 ·rename_i h;simp [h]
theorem g1n {b:Book} {F:List Int->Bool} {i:Nat}:b.well F i=true<->∀ k,k<b.days.length - b.o->b.harm i (b.o+k) (onF F i)=false:=by
 rw [Book.well,Option.isNone_iff_eq_none,a3y]
theorem g1p {b:Book} {F:List Int->Bool}:b.b5J F=true<->∀ i,i<b.singers.length->b.well F i=true:=by
 rw [Book.b5J,Option.isNone_iff_eq_none,a3y]
 simp
theorem g1t {b:Book} {F:List Int->Bool}:b.enough F=true<->∀ k,k<b.days.length - b.o->b.a8P (b.o+k)<=b.sing F (b.o+k):=by
 rw [Book.enough,Option.isNone_iff_eq_none,a3y]
 simp
theorem g1I {b:Book} (hv:b.valid=true) (hne:b.now≠[]):b.err true=0:=by
 rw [_root_.Go.Pm.St.a5Z hv]
 cases h:b.now with
 | nil=>exact absurd h hne
 | cons x l=>rfl
theorem g1D {b:Book} {ds ds':List Day} (h:Less (a2b b.signs) ds ds') (hv':(b.dd ds').valid=true) {l:List Rest} (hs:((b.dd ds).safe l).1=true):((b.dd ds').safe l).1=true:=by
 obtain ⟨he,hw,hn⟩:=g0W.1 hs
 obtain ⟨hv,hp,hne⟩:=a5T he
 have sn:=a2n.1 hv
 have sn':=a2n.1 hv'
 obtain ⟨c0,st0,w0⟩:=(d1Q sn).1 hne
 have hne':(b.dd ds').now≠[]:=(d1Q sn').2 ⟨c0,st0,g1G h sn w0⟩
 have hp':(b.dd ds').a4k l=true:=by
  rw [b6w] at hp ⊢
  intro i y hy
  have:=hp i y hy
  simp only [Book.a2O,Book.a1f,h.len] at this ⊢
  exact this
 refine g0W.2 ⟨by rw [hp'];exact g1I hv' hne',?_,?_⟩
 ·rw [g1p] at hw ⊢
  intro i hi
  have hwi:=g1n.1 (hw i hi)
  refine g1n.2 fun k hk=>?_
  have h1:=hwi k (by have:=h.len;simp only [Book.dd,Book.o] at hk ⊢;omega)
  simp only [Book.harm,Bool.or_eq_false_iff,decide_eq_false_iff_not] at h1 ⊢
  refine ⟨by rw [g1v h];exact h1.1,fun hlt=>?_⟩
  obtain ⟨⟨c,st,w,e⟩, -⟩:=d1A sn' hne' hi (b.o+k) (onF (a1M b.F l) i)
  have h2:=(d1A sn hne hi (b.o+k) (onF (a1M b.F l) i)).2 c st (g1z h sn w)
  have hp0:0<=c.p:=by
   have h0:0<=b.c0.lo:=sn.k0.1
   have h1:b.c0.lo<=c.p:=w.c0.1
   exact Int.le_trans h0 h1
  have h3:=g1B h hp0 (s:=st i) (r:=onF (a1M b.F l) i) (b.o+k)
  have e':(b.dd ds').low i (b.o+k) (onF (a1M b.F l) i)=a2B ds' c (st i) (onF (a1M b.F l) i) (b.o+k):=e
  have hlt':(b.dd ds').low i (b.o+k) (onF (a1M b.F l) i)<0:=hlt
  have h2':(b.dd ds).low i (b.o+k) (onF (a1M b.F l) i)<=a2B ds c (st i) (onF (a1M b.F l) i) (b.o+k):=h2
  exact h1.2 (Int.lt_of_le_of_lt (Int.le_trans h2' h3) (by rw [← e'];exact hlt'))
 ·rw [g1t] at hn ⊢
  intro k hk
  have h1:=hn k (by have:=h.len;simp only [Book.dd,Book.o] at hk ⊢;omega)
  have e:(b.dd ds').a8P (b.o+k)<=(b.dd ds).a8P (b.o+k):=by
   rcases h.get (b.o+k) with ⟨e1,e2⟩|⟨z,z',e1,e2,h1,h2,h3,h4⟩
   ·simp only [Book.a8P,e1,e2];exact Int.le_refl _
   ·simp only [Book.a8P,e1,e2];exact h3
  exact Int.le_trans e h1
end Go.Pm.St
namespace Go.Pm.St
theorem g1w {b:Book} {o:Int} {ds ds':List Day} (h:Less o ds ds') (h0:∀ z∈ds',0<=z.plain/\0<=z.needs) (hv:(b.dd ds).valid=true):(b.dd ds').valid=true:=by
 obtain ⟨s,hg⟩:=a8w.1 hv
 refine a8w.2 ⟨{ s with d1:=?_,d5:=?_,dy:=fun z hz=>?_,rs:=fun x hx=>?_,sg:=fun x hx=>?_ },hg⟩
 ·have:=s.d1;have:=h.len;simp only [Book.dd] at *;omega
 ·have:=s.d5;have:=h.len;simp only [Book.dd] at *;omega
 ·obtain ⟨d,hd⟩:=List.mem_iff_getElem?.1 hz
  rcases h.get d with ⟨e1,e2⟩|⟨w,w',e1,e2,h1,h2,h3,h4⟩
  ·have hd':ds'[d]?=some z:=hd
   rw [e2] at hd';cases hd'
  ·have hd':ds'[d]?=some z:=hd
   rw [e2] at hd'
   cases hd'
   have:=h0 _ hz
   have:=s.dy w (List.mem_of_getElem? e1)
   omega
 ·have:=s.rs x hx;have:=h.len;simp only [Book.dd] at *;omega
 ·have:=s.sg x hx;have:=h.len;simp only [Book.dd] at *;omega
theorem g1g (b:PBook) (l m:List Int) (d:Nat):(b.f8J l m)[d]?=(b.st.days[d]?).map fun z=>b.dayOf l m d z:=by
 rw [PBook.f8J,List.getElem?_mapIdx]
theorem g1E {b:PBook} (hs:PSane b) (l m:List Int):∀ z∈b.f8J l m,0<=z.plain/\0<=z.needs:=by
 intro z hz
 obtain ⟨d,hd⟩:=List.mem_iff_getElem?.1 hz
 rw [g1g] at hd
 cases h:b.st.days[d]? with
 | none=>rw [h] at hd;cases hd
 | some w =>
  rw [h] at hd
  have hw:=hs.st.dy w (List.mem_of_getElem? h)
  cases hd
  simp only [PBook.dayOf]
  split
  ·constructor
   ·show 0<=w.plain+1;omega
   ·show 0<=max w.needs _;omega
  ·exact ⟨hw.1.1,hw.2.2.1⟩
end Go.Pm.St
namespace Go.Pm.St
open Ac
theorem f8u (b:PBook) (r:Nat):∀ n,b.a5c r n=e6D (fun j=>b.a4k (e6u.put r j)) n
 | 0=>rfl
 | n+1=>by simp only [PBook.a5c,e6D,f8u b r n]
theorem f8v (b:PBook):∀ n,b.e6F n=e6D (fun j=>decide ((b.alone j).length=0)) n
 | 0=>rfl
 | n+1=>by
  simp only [PBook.e6F,e6D,f8v b n]
  by_cases h:(b.alone n).length=0<;>simp [h]
section
variable {Γ:Env} [P04 Γ] [G04 Γ] [GCo Γ] [GPr Γ]
end
end Go.Pm.St
namespace Go.Pm.St
open Ac
theorem f8Z (b:PBook) (l:List Int) (hl:l.length=b.rehs.length) (h3:b.rehs.length<=3):(b.e7j l).l=l++List.replicate (3 - l.length) 9:=by
 simp only [PBook.e7j,if_pos hl]
 match l,hl with
 | [],_=>rfl
 | [x],_=>rfl
 | [x,y],_=>rfl
 | [x,y,z],_=>rfl
 | _::_::_::_::_,h=>exact absurd h (by simp only [List.length_cons];omega)
theorem f9q (b:PBook) (f:Nat->Bool) (j:Nat):b.e5W (e6D f (j+1))=if f j then b.e5W (e6D f j)++b.newN j (b.e5i j) else b.e5W (e6D f j):=by
 simp only [e6D]
 split
 ·rw [f0N]
 ·rfl
section
variable {Γ:Env} [P04 Γ] [G04 Γ] [GCo Γ] [GPr Γ]
section
variable (b:PBook) (k:SK) (D:List Int) (is:Bool) (P:List Rest)
end
end
end Go.Pm.St
namespace Go.Pm.St
theorem g2a {α:Type} {f g:Nat->List α} (h0:f 0=[]) (hs:∀ n,f (n+1)=f n++g n) {w:α}:∀ n,w∈f n<->∃ k,k<n/\w∈g k
 | 0=>by simp [h0]
 | n+1=>by
  rw [hs,List.mem_append,g2a h0 hs n]
  constructor
  ·rintro (⟨k,hk,h⟩|h)
   ·exact ⟨k,by omega,h⟩
   ·exact ⟨n,by omega,h⟩
  ·rintro ⟨k,hk,h⟩
   by_cases e:k=n
   ·subst e;exact .inr h
   ·exact .inl ⟨k,by omega,h⟩
theorem g2x {b:CBook} {A:Int->Int->Bool} {bed day:Nat} {out:Int} {w:Cold} {n:Nat}:w∈b.e6H A bed day out n<->∃ k,k<n/\b.right (b.e7P A bed day out (b.g.lo+k))=true/\w=b.e7P A bed day out (b.g.lo+k):=by
 rw [g2a (f:=b.e6H A bed day out) rfl (fun _=>rfl) n]
 refine exists_congr fun k=>and_congr_right fun _=>?_
 split
 ·rename_i h;simp [h]
 ·rename_i h;simp [h]
theorem g2C {b:CBook} {A:Int->Int->Bool} {bed day:Nat} {w:Cold} {n:Nat}:w∈b.outN A bed day n<->∃ j,j<n/\w∈b.e6H A bed day (b.o.lo+j) b.g.many :=
 g2a (f:=b.outN A bed day) rfl (fun _=>rfl) n
theorem g2B {b:CBook} {A:Int->Int->Bool} {bed:Nat} {w:Cold} {n:Nat}:w∈b.dayL A bed n<->∃ d,d<n/\A bed d=false/\w∈b.outN A bed d b.o.many:=by
 rw [g2a (f:=b.dayL A bed) rfl (fun _=>rfl) n]
 refine exists_congr fun d=>and_congr_right fun _=>?_
 cases A bed d<;>simp
theorem g2A {b:CBook} {A:Int->Int->Bool} {w:Cold} {n:Nat}:w∈b.bedL A n<->∃ i,i<n/\b.clean i=false/\w∈b.dayL A i (b.til+1).toNat:=by
 rw [g2a (f:=b.bedL A) rfl (fun _=>rfl) n]
 refine exists_congr fun d=>and_congr_right fun _=>?_
 cases b.clean d<;>simp
theorem g2n {b:CBook} {A:Int->Int->Bool} {w:Cold}:w∈b.ways A<->∃ i d j k:Nat,i<b.beds.toNat/\b.clean i=false/\d<(b.til+1).toNat/\A i d=false/\j<b.o.many/\k<b.g.many ∧
 b.right (b.e7P A i d (b.o.lo+j) (b.g.lo+k))=true/\w=b.e7P A i d (b.o.lo+j) (b.g.lo+k):=by
 simp only [CBook.ways,g2A,g2B,g2C,g2x]
 constructor
 ·rintro ⟨i,hi,hc,d,hd,ha,j,hj,k,hk,hr,e⟩;exact ⟨i,d,j,k,hi,hc,hd,ha,hj,hk,hr,e⟩
 ·rintro ⟨i,d,j,k,hi,hc,hd,ha,hj,hk,hr,e⟩;exact ⟨i,hi,hc,d,hd,ha,j,hj,k,hk,hr,e⟩
/-! ### A cold that stays in its bed -/
def g2f (c:Nat):Int->Int->Bool:=fun bed day=>decide (bed=c)&&decide (1<=day)
theorem g2z:((List.range 4).all fun c=>(List.range 6).all fun n=>(List.range 3).all fun g=>decide (e6S (g2f c) ((g:Int)+1) ((c:Int)+2) n (e5Q.set (c+1) 0) 1=e5Q.set (c+1) 0))=true:=by decide +kernel
theorem g2v:((List.range 4).all fun c=>(List.range (c+2)).all fun i=>decide ((i=c+1)<->decide (a5l .i64 (BitVec.ofInt 64 (((2:Int) ^ (c+1)).fdiv (2 ^ i)) &&& BitVec.ofInt 64 1)=0)=false))=true:=by decide +kernel
theorem g2w:((List.range 4).all fun c=>(List.range (c+1)).all fun i=>decide ((e5Q.set (c+1) (0:Int)).getD i 0 = -1))=true:=by decide +kernel
/-! ### Who is away -/
theorem g2m (L:List (Int × Int × Bool)) (bed day i d:Int):∀ n:Nat,gotB (e7J L bed day n) i d=if i=bed/\day<=d/\d<day+n then true else gotB L i d
 | 0=>by rw [e7J,if_neg (by omega)]
 | n+1=>by
  rw [e7J,f0v,g2m L bed day i d n]
  by_cases h1:i=bed/\d=day+n
  ·rw [if_pos h1,if_pos (by omega)]
  ·rw [if_neg h1]
   by_cases h2:i=bed/\day<=d/\d<day+n
   ·rw [if_pos h2,if_pos (by omega)]
   ·rw [if_neg h2,if_neg (by omega)]
theorem g2h {b:CBook} (i d:Int) (hi:0<=i):∀ j,j<=b.moves.length->gotB (b.e7o j) i d=(decide (d<b.days)&&(b.moves.take j).any fun x=>decide (x.bed=i)&&decide (x.day<=d))
 | 0,_=>by
  have:¬ i = -1:=by omega
  simp [CBook.e7o,gotB,this]
  try omega
 | j+1,h=>by
  obtain ⟨x,hx⟩:∃ x,b.moves[j]?=some x:=⟨_,List.getElem?_eq_getElem (by omega)⟩
  rw [f0c b hx,g2m,g2h i d hi j (by omega),take_snoc hx,List.any_append]
  simp only [List.any_cons,List.any_nil,Bool.or_false]
  by_cases h1:i=x.bed/\x.day<=d/\d<x.day+((b.days - x.day).toNat:Int)
  ·rw [if_pos h1,decide_eq_true (show d<b.days by omega),decide_eq_true h1.1.symm,decide_eq_true h1.2.1];simp
  ·rw [if_neg h1]
   by_cases hd:d<b.days
   ·have:(decide (x.bed=i)&&decide (x.day<=d))=false:=by
     rw [Bool.and_eq_false_iff,decide_eq_false_iff_not,decide_eq_false_iff_not]
     by_cases e:x.bed=i
     ·right;intro h2;exact h1 ⟨e.symm,h2,by omega⟩
     ·exact .inl e
    rw [this,Bool.or_false]
   ·rw [decide_eq_false hd];rfl
theorem g2k (b:CBook) (i d:Int) (hi:0<=i):gotB b.e7p i d=(decide (d<b.days)&&b.away i d):=by
 rw [CBook.e7p,g2h i d hi _ (Nat.le_refl _),List.take_length];rfl
theorem g2r {A A':Int->Int->Bool} {g beds:Int} {l:List Int} {day near:Int} (h:∀ i:Int,0<=i->A i day=A' i day):e7z A g beds l day near=e7z A' g beds l day near:=by
 by_cases hn:0<=near
 ·simp only [e7z,h near hn]
 ·have:within near 0 (beds - 1)=false:=by
   rw [Bool.eq_false_iff];intro hw;have:=within_iff.1 hw;omega
  simp only [e7z,this,Bool.false_and]
theorem g2l {A A':Int->Int->Bool} {g beds:Int} {l:List Int} {day:Int} (h:∀ i:Int,0<=i->A i day=A' i day):∀ n,dayN A g beds l day n=dayN A' g beds l day n
 | 0=>rfl
 | n+1=>by
  have e:catches A g beds l day n=catches A' g beds l day n:=by simp only [catches,g2r h,h (n:Int) (by omega)]
  simp only [dayN,e,g2l h n]
theorem g2e {A A':Int->Int->Bool} {g beds:Int}:∀ (n:Nat) (l:List Int) (day:Int),(∀ i d:Int,0<=i->day<=d->d<day+n->A i d=A' i d)->e6S A g beds n l day=e6S A' g beds n l day
 | 0,_,_,_=>rfl
 | n+1,l,day,h=>by
  simp only [e6S]
  rw [g2l (fun i hi=>h i day hi (by omega) (by omega)),g2e n _ (day+1) (fun i d hi h1 h2=>h i d hi (by omega) (by omega))]
theorem stays {b:CBook} (hs:CSane b) {c:Nat} (hc:c<4) (hb:b.beds=c+2) (hg:b.begins=2 ^ (c+1)) (ht:b.til=0) (hh:b.heard=[])
 (hm:∀ (i d:Int),d<b.days->b.away i d=g2f c i d) :
 b.now≠[]/\∀ w∈b.now,∀ (i:Nat) (d:Int),i<c+1->w.ill i d=false:=by
 have hd6:=hs.d1;have ho:=hs.o1;have hg1:=hs.g1
 have hb5:b.beds.toNat=c+2:=by omega
 have hcl:=List.all_eq_true.1 g2v c (List.mem_range.2 hc)
 have clean:∀ i,i<c+2->(b.clean i=false<->i=c+1):=fun i hi=>by
  have:=of_decide_eq_true (List.all_eq_true.1 hcl i (List.mem_range.2 hi))
  rw [CBook.clean,hg];exact this.symm
 have A0:gotB b.e7p ((c+1:Nat):Int) ((0:Nat):Int)=false:=by
  rw [g2k b _ _ (by omega),hm _ _ (by omega)];simp [g2f]
 have right:∀ w,b.right w=true:=fun w=>by simp [CBook.right,hh]
 constructor
 ·intro e
  have:b.e7P (gotB b.e7p) (c+1) 0 (b.o.lo+(0:Nat)) (b.g.lo+(0:Nat))∈b.now:=g2n.2 ⟨c+1,0,0,0,by omega,(clean _ (by omega)).2 rfl,by omega,A0,by simp only [Span.many];omega,by simp only [Span.many];omega,right _,rfl⟩
  rw [e] at this;cases this
 ·intro w hw i d hi
  obtain ⟨p,q,j,k,h1,h2,h3,h4,h5,h6, -,rfl⟩:=g2n.1 hw
  have hp:p=c+1:=(clean p (by omega)).1 h2
  have hq:q=0:=by omega
  subst hp;subst hq
  have hk:b.g.lo+(k:Int)<=3:=by simp only [Span.many] at h6;omega
  obtain ⟨n,hn⟩:∃ n:Nat,(b.days - (((0:Nat):Int)+1)).toNat=n:=⟨_,rfl⟩
  obtain ⟨g,hgo⟩:∃ g:Nat,b.g.lo+(k:Int)=(g:Int)+1:=⟨(b.g.lo+k - 1).toNat,by omega⟩
  have hst:=of_decide_eq_true (List.all_eq_true.1 (List.all_eq_true.1 (List.all_eq_true.1 g2z c (List.mem_range.2 hc)) n (List.mem_range.2 (by omega))) g (List.mem_range.2 (by omega)))
  have hsp:b.spread (gotB b.e7p) ((c+1:Nat):Int) ((0:Nat):Int) (b.g.lo+k)=e5Q.set (c+1) 0:=by
   rw [CBook.spread,hn,hgo,hb,Int.toNat_natCast]
   rw [← hst]
   refine g2e n _ _ (fun i d hi h1 h2=>?_)
   rw [g2k b _ _ hi,hm _ _ (by omega),decide_eq_true (show d<b.days by omega),Bool.true_and]
  have hat:(b.e7P (gotB b.e7p) (c+1) 0 (b.o.lo+j) (b.g.lo+k)).at i = -1:=by
   rw [CBook.e7P,Cold.at,f0n (f1D ..),hsp,Int.toNat_natCast]
   exact of_decide_eq_true (List.all_eq_true.1 (List.all_eq_true.1 g2w c (List.mem_range.2 hc)) i (List.mem_range.2 hi))
  rw [Cold.ill,hat]
  simp [within]
end Go.Pm.St
namespace Go.Pm.St
def CBook.one (b:CBook):CBook:={ b with beds:=b.beds+1,begins:=2 ^ b.beds.toNat,til:=0,km:=if 1<b.days then .full else .nil,moves:=if 1<b.days then [⟨b.beds - 1,1⟩] else [],kh:=.nil,heard:=[] }
def PBook.one (b:PBook):PBook:={ b with cold:=b.cold.one }
theorem g2i {b:CBook} (hv:b.valid=true) (h4:b.beds<=4):b.one.valid=true:=by
 have hs:=e7y hv
 have hb:=hs.b1;have hd:=hs.d1
 obtain ⟨c,hc⟩:∃ c:Nat,b.beds=(c:Int)+1:=⟨(b.beds - 1).toNat,by omega⟩
 have hc4:c=0\/c=1\/c=2\/c=3:=by omega
 have hbt:b.beds.toNat=c+1:=by omega
 have hbt2:b.one.beds.toNat=c+2:=by show (b.beds+1).toNat=_;omega
 have hroom:0<=b.rooms/\b.rooms<=3:=by
  simp only [CBook.valid,Bool.and_eq_true,within_iff] at hv
  exact hv.1.1.1.1.1.2
 have hmv:b.one.e6R b.one.moves.length=true:=by
  simp only [CBook.e6R,CBook.one]
  by_cases h1:1<b.days
  ·simp only [if_pos h1,List.length_singleton,List.all_eq_true,List.mem_range]
   intro k hk
   obtain rfl:k=0:=by omega
   simp [CBook.e9B,CBook.e7i,f1Y,within]
   omega
  ·simp [if_neg h1]
 have hml:b.one.moves.length<=1:=by
  simp only [CBook.one];split<;>simp
 have hbg:1<=b.one.begins/\b.one.begins<=2 ^ b.one.beds.toNat - 1:=by
  have e:b.one.begins=2 ^ (c+1):=by show (2:Int) ^ b.beds.toNat=_;rw [hbt]
  rw [e,hbt2]
  rcases hc4 with rfl|rfl|rfl|rfl<;>decide
 simp only [CBook.valid,Bool.and_eq_true,within_iff,decide_eq_true_eq,Span.f1w]
 refine ⟨⟨⟨⟨⟨⟨⟨⟨⟨⟨?_,hd⟩,?_⟩,hs.o1⟩,hs.g1⟩,hroom⟩,?_⟩,?_⟩,hbg⟩,hmv⟩,rfl⟩
 ·show 1<=b.beds+1/\b.beds+1<=5;omega
 ·show 0<=(0:Int)/\(0:Int)<=b.days - 1;omega
 ·omega
 ·show ((0:Nat):Int)<=4;omega
theorem g2F {b:CBook} (hv:b.valid=true) (h4:b.beds<=4):b.one.now≠[]/\∀ w∈b.one.now,∀ (i:Nat) (d:Int),(i:Int)<b.beds->w.ill i d=false:=by
 have hs:=e7y hv
 have hb:=hs.b1;have hd:=hs.d1
 obtain ⟨c,hc⟩:∃ c:Nat,b.beds=(c:Int)+1:=⟨(b.beds - 1).toNat,by omega⟩
 have h:=stays (b:=b.one) (e7y (g2i hv h4)) (c:=c) (by omega) (by show b.beds+1=_;omega) (by show (2:Int) ^ b.beds.toNat=_;rw [show b.beds.toNat=c+1 by omega]) rfl rfl (fun i d hlt=>by
  have hlt':d<b.days:=hlt
  simp only [CBook.away,CBook.one,g2f]
  by_cases h1:1<b.days
  ·simp only [if_pos h1,List.any_cons,List.any_nil,Bool.or_false]
   rw [show b.beds - 1=(c:Int) by omega]
   congr 1
   exact decide_eq_decide.2 ⟨fun h=>h.symm,fun h=>h.symm⟩
  ·have:¬ 1<=d:=by omega
   simp [if_neg h1,this])
 exact ⟨h.1,fun w hw i d hi=>h.2 w hw i d (by omega)⟩
theorem g2t {b:PBook} (hv:b.valid=true) (h4:b.cold.beds<=4):b.one.valid=true:=by
 have hb:=PBook.e8i.1 (e8r hv)
 simp only [PBook.valid,Bool.and_eq_true] at hv ⊢
 refine ⟨⟨PBook.e8i.2 ⟨g2i hb.1 h4,hb.2.1,hb.2.2.1,hb.2.2.2.1,hb.2.2.2.2⟩,?_⟩,hv.2⟩
 have h:=hv.1.2
 simp only [PBook.e6W,List.all_eq_true] at h ⊢
 intro k hk
 have:=h k hk
 have e:b.one.sleeps=b.sleeps:=rfl
 rw [e]
 cases hx:b.sleeps[k]? with
 | none=>rfl
 | some x =>
  rw [hx] at this
  simp only [PBook.e9c,Bool.and_eq_true,within_iff] at this ⊢
  exact ⟨⟨this.1.1,by have:=this.1.2;show x<=b.cold.beds+1 - 1;omega⟩,this.2⟩
theorem g2b {f:Nat->Bool}:∀ n,(∀ j,j<n->f j=false)->e6D f n=[]
 | 0,_=>rfl
 | n+1,h=>by simp only [e6D,h n (by omega),Bool.false_eq_true,if_false];exact g2b n (fun j hj=>h j (by omega))
theorem g2D {b:PBook} (hv:b.valid=true) (h4:b.cold.beds<=4) (d:Nat):b.one.e5i d=[]:=by
 have hs:=e6h hv
 have hc:=g2F (e8s hv) h4
 rw [PBook.e5i,e8K]
 refine g2b _ fun j hj=>?_
 have h:=f1T b.one j d
 rw [PBook.f4t] at h
 rw [h,Bool.and_eq_false_iff]
 right
 rw [decide_eq_false_iff_not]
 have hj':j<b.sleeps.length:=hj
 have hbed:=f0P hs hj'
 have hsl:b.one.sleeps[j]?.getD 0=b.sleeps[j]?.getD 0:=rfl
 rw [hsl]
 obtain ⟨i,hi⟩:∃ i:Nat,b.sleeps[j]?.getD 0=i:=⟨_,(Int.toNat_of_nonneg hbed.1).symm⟩
 rw [hi] at hbed ⊢
 unfold CBook.ill
 split
 ·intro h0
  obtain ⟨w,hw,hil⟩:=(e9v hc.1).1 h0
  rw [hc.2 w hw i d hbed.2] at hil
  cases hil
 ·simp
theorem g2c {b:PBook} (h:∀ d:Nat,b.e5i d=[]) (f:Nat->Bool):∀ n,b.e5W (e6D f n)=[]
 | 0=>rfl
 | n+1=>by
  rw [f9q,g2c h f n,h n]
  split<;>rfl
theorem g2q {b:PBook} (hs:PSane b) (h:∀ d:Nat,b.e5i d=[]) {x:D3} (hx:x∈b.plans):b.keeps x=0:=by
 have hb:=((g0j b hs b.rehs.length 0 e6u (by omega) (fun i d hd _=>e8M i d hd)).2 x hx).1.2
 have hk:∀ d∈x.l,((b.e5i d).length:Int)=0:=fun d hd=>by
  obtain ⟨i,hi⟩:=List.mem_iff_getElem?.1 hd
  have:=hb i d (by omega) hi
  obtain ⟨e,rfl⟩:∃ e:Nat,d=e:=⟨d.toNat,by omega⟩
  rw [h e];rfl
 have hz:∀ l:List Int,(∀ d∈l,((b.e5i d).length:Int)=0)->sumW (b.e6K l)=0:=by
  intro l hl
  have:∀ m:List Int,(∀ n∈m,n=0)->sumW m=0:=by
   intro m
   induction m with
   | nil=>intro _;rfl
   | cons a m ih =>
    intro hm
    have:a=0:=hm a (by simp)
    subst this
    have hz:IntKind.i64.wrap (0+0)=0:=by decide
    show m.foldl (fun a n=>IntKind.i64.wrap (a+n)) (IntKind.i64.wrap (0+0))=0
    rw [hz]
    exact ih (fun n hn=>hm n (by simp [hn]))
  refine this _ fun n hn=>?_
  simp only [PBook.e6K,List.mem_map,List.mem_filter] at hn
  obtain ⟨d,⟨hd, -⟩,rfl⟩:=hn
  exact hl d hd
 exact hz x.l hk
theorem g2E (b:PBook):b.e7T=a2b b.st.signs:=by
 simp only [PBook.e7T,PBook.e9G,a2b,List.take_length]
theorem g2u {b:PBook} (hs:PSane b) (h:∀ d:Nat,b.e5i d=[]) {x:D3} (hx:b.a4k x=true) {i:Nat} {d:Int} (hd:x.l[i]?=some d) (h9:d≠9):b.a4k (e6u.put i d)=true:=by
 have hd5:=hs.st.d5
 rw [f9w b hs,Bool.and_eq_true,g2c h] at hx
 rw [f9w b hs,Bool.and_eq_true,g2c h]
 obtain ⟨ho,hsf⟩:=hx
 have hi3:i<3:=(List.getElem?_eq_some_iff.1 hd).1
 have at_:=g0Q ho
 have day:∀ (j:Nat) (e:Int),x.l[j]?=some e->e≠9->(∃ y,b.rehs[j]?=some y/\max b.e7T y.fr<=e/\e<=y.til)/\(x.l.take j).contains e=false:=fun j e he e9=>by
  have hk:=at_ j (List.getElem?_eq_some_iff.1 he).1
  simp only [PBook.okAt,he,Bool.or_eq_true,decide_eq_true_eq,Bool.and_eq_true,Bool.not_eq_true'] at hk
  obtain ⟨⟨h1, -⟩,h3⟩:=hk.resolve_left e9
  refine ⟨?_,h3⟩
  cases hy:b.rehs[j]? with
  | none=>rw [hy] at h1;cases h1
  | some y=>rw [hy] at h1;exact ⟨y,rfl,within_iff.1 h1⟩
 have get (j:Nat):=D3.f1j e6u i j d hi3
 have ukd:∀ (l:List Int),(∀ z∈l,z=9)->l.contains d=false:=fun l hl=>by
  rw [Bool.eq_false_iff];intro hc;exact h9 (hl d (List.contains_iff_mem.1 hc))
 have utk:∀ z∈(e6u.put i d).l.take i,z=9:=fun z hz=>by
  rw [D3.f2R] at hz
  obtain ⟨j,hj⟩:=List.mem_iff_getElem?.1 (List.mem_of_mem_take hz)
  exact e8M j z hj
 have ok:∀ j,j<3->b.okAt (e6u.put i d) j=true:=fun j hj=>by
  by_cases hij:i=j
  ·subst hij
   have hk:=at_ i hi3
   have hg:=get i
   rw [if_pos rfl] at hg
   simp only [PBook.okAt,hd,hg,Bool.or_eq_true,decide_eq_true_eq,Bool.and_eq_true,Bool.not_eq_true'] at hk ⊢
   obtain ⟨h1,h3⟩:=hk.resolve_left h9
   exact .inr ⟨h1,ukd _ utk⟩
  ·have hg:=get j
   rw [if_neg hij] at hg
   cases hu:e6u.l[j]? with
   | none=>rw [hu] at hg;simp only [PBook.okAt,hg]
   | some z=>rw [hu,e8M j z hu] at hg;simp only [PBook.okAt,hg,decide_true,Bool.true_or]
 refine ⟨by simp only [PBook.f8W,ok 0 (by omega),ok 1 (by omega),ok 2 (by omega),Bool.and_self],?_⟩
 have mem:∀ e:Nat,e<b.st.days.length->((e6u.put i d).l.contains (e:Int)=decide ((e:Int)=d)):=fun e he=>by
  rw [Bool.eq_iff_iff,List.contains_iff_mem,decide_eq_true_eq]
  constructor
  ·intro hm
   obtain ⟨j,hj⟩:=List.mem_iff_getElem?.1 hm
   rw [get j] at hj
   split at hj
   ·cases hj;rfl
   ·have:=e8M j _ hj;omega
  ·rintro rfl
   exact List.mem_of_getElem? (by have:=get i;rwa [if_pos rfl] at this)
 have hL:Less (a2b b.st.signs) (b.f8J x.l x.l) (b.f8J (e6u.put i d).l (e6u.put i d).l):=by
  refine ⟨by simp only [PBook.f8J,List.length_mapIdx],fun e z z' hz hz'=>?_⟩
  rw [g1g] at hz hz'
  cases hw:b.st.days[e]? with
  | none=>rw [hw] at hz;cases hz
  | some w =>
   have hel:=(List.getElem?_eq_some_iff.1 hw).1
   rw [hw] at hz hz'
   cases hz;cases hz'
   simp only [PBook.dayOf,mem e hel]
   by_cases hed:(e:Int)=d
   ·have hxd:x.l.contains (e:Int)=true:=by rw [List.contains_iff_mem,hed];exact List.mem_of_getElem? hd
    have hw1:d2R x.l (e:Int)=i:=f9d (by rw [hd,hed]) (fun hm=>by
     have:=(day i d hd h9).2
     rw [← hed] at this
     rw [List.contains_iff_mem.2 hm] at this;cases this)
    have hw2:d2R (e6u.put i d).l (e:Int)=i:=f9d (by have:=get i;rw [if_pos rfl] at this;rw [this,hed]) (fun hm=>by have:=utk _ hm;omega)
    simp only [hxd,decide_eq_true hed,if_true,PBook.f8T,hw1,hw2]
    refine ⟨Int.le_refl _,trivial,Int.le_refl _,fun _=>trivial⟩
   ·simp only [decide_eq_false hed,Bool.false_eq_true,if_false]
    cases hc:x.l.contains (e:Int) with
    | false=>simp
    | true =>
     simp only [if_true]
     refine ⟨by omega,trivial,by omega,fun ho'=>?_⟩
     obtain ⟨j,hj⟩:=List.mem_iff_getElem?.1 (List.contains_iff_mem.1 hc)
     obtain ⟨⟨y, -,hy1, -⟩, -⟩:=day j e hj (by omega)
     rw [g2E] at hy1
     omega
 exact g1D hL (g1w hL (g1E hs _ _) (a5T (g0W.1 hsf).1).1) hsf
end Go.Pm.St
namespace Go.Pm.St
open Ac
def PBook.told (b:PBook) (x:D3):List Int:=x.l.take b.rehs.length
theorem g0h {b:PBook} (hr:b.rehs.length<=3) (x:D3):(b.told x).length=b.rehs.length:=by
 rw [PBook.told,List.length_take];show min _ 3=_;omega
theorem g0A {b:PBook} (hr:b.rehs.length<=3) {x:D3} (hf:b.for x):x.l=b.told x++List.replicate (3 - b.rehs.length) 9:=by
 apply List.ext_getElem?
 intro i
 have ht:=g0h hr x
 by_cases hi:i<b.rehs.length
 ·rw [List.getElem?_append_left (by omega),PBook.told,List.getElem?_take,if_pos hi]
 ·rw [List.getElem?_append_right (by omega),List.getElem?_replicate,ht]
  by_cases h3:i<3
  ·obtain ⟨a,ha⟩:∃ a,x.l[i]?=some a:=⟨_,List.getElem?_eq_getElem h3⟩
   rw [if_pos (by omega),ha,hf i a ha (by omega)]
  ·rw [if_neg (by omega),List.getElem?_eq_none (show x.l.length<=i from by show 3<=i;omega)]
theorem g0n {b:PBook} (hr:b.rehs.length<=3) {x:D3} (hf:b.for x):b.e7j (b.told x)=x :=
 D3.g0R (by rw [f8Z b _ (g0h hr x) hr,g0h hr x, ← g0A hr hf])
section
variable {Γ:Env} [P04 Γ] [G04 Γ] [GCo Γ] [GPr Γ]
end
end Go.Pm.St
namespace Go.Pm.St
open Ac
def B23 (b:PBook) (c:C):List C:=b.cold.c++b.st.c++[.sl b.kl 1 (nums b.sleeps),c]
section
variable (b:PBook) (c d:C)
@[go_sem] theorem g1P:(B23 b c).length=23:=nrfl rfl
@[go_sem] theorem g1R:(B23 b c)[22]?=some c:=nrfl rfl
@[go_sem] theorem g1O:a0R (B23 b c) 0 23=some (B23 b c):=nrfl rfl
@[go_sem] theorem g1S:(B23 b c).map a0r=B23 b (a0r c):=nrfl rfl
@[go_sem] theorem g1M (n:Nat):C.a0G n (B23 b c)=C.a0G n [c]:=nrfl rfl
@[go_sem] theorem g1N:C.a0v (B23 b c)=C.a0v [c]:=nrfl rfl
@[go_sem] theorem g1J:a1H (B23 b c) 22 [d]=B23 b d:=nrfl rfl
@[go_sem] theorem PBook.g1K:a1H b.c 22 [c]=B23 b c:=nrfl rfl
@[go_sem] theorem PBook.g1Q:b.c.set 22 c=B23 b c:=nrfl rfl
@[go_sem] theorem PBook.g1T (z0 z1 z2 z3 z4 z5 z6 z7 z8 z9 z10 z11 z12 z13 z14 z15 z16 z17 z18 z19 z20 z21 z22:C):a1H [z0,z1,z2,z3,z4,z5,z6,z7,z8,z9,z10,z11,z12,z13,z14,z15,z16,z17,z18,z19,z20,z21,z22] 0 b.c=b.c:=by
 rw [e7D _ _ (by rw [PBook.b3N];exact Nat.le_refl 23),PBook.b3N]
 simp only [List.drop_succ_cons,List.drop_zero,List.append_nil]
end
def Reh.day (y:Reh):Day:=⟨y.fr,y.til,y.wants⟩
theorem g1U {b:PBook} (hv:b.valid=true) (hc:b.can=true):b.plan=match b.best with|some x=>(b.told x,0)|none=>([],4):=by
 have he:b.err true=0:=by simp [PBook.err,hv,hc]
 simp only [PBook.plan,if_pos he];rfl
end Go.Pm.St
namespace Go.Pm.St
open Ac
theorem g2d (f:Nat->Bool):∀ n,∀ x∈e6D f n,∃ j:Nat,x=j/\j<n/\f j=true
 | 0,x,h=>by simp [e6D] at h
 | n+1,x,h=>by
  simp only [e6D] at h
  split at h
  ·rename_i hf
   rcases List.mem_append.1 h with h|h
   ·obtain ⟨j,h1,h2,h3⟩:=g2d f n x h;exact ⟨j,h1,by omega,h3⟩
   ·simp at h;exact ⟨n,h,by omega,hf⟩
  ·obtain ⟨j,h1,h2,h3⟩:=g2d f n x h;exact ⟨j,h1,by omega,h3⟩
theorem g2j (f:Nat->Bool):∀ n,(∀ j,j<n->f j=true)->(e6D f n).length=n
 | 0,_=>rfl
 | n+1,h=>by simp only [e6D,h n (by omega),if_true,List.length_append,List.length_singleton,g2j f n (fun j hj=>h j (by omega))]
theorem g2p {b:PBook} {j d:Nat} (hd:d<b.st.days.length) (h:b.a4k (e6u.put j d)=true):(b.alone j).length≠0:=by
 intro h0
 have hc:=e9X (fun d=>b.a4k (e6u.put j d)) d b.st.days.length
 rw [← f8u] at hc
 have e:b.a5c j b.st.days.length=[]:=List.length_eq_zero_iff.1 h0
 rw [e,decide_eq_true hd,h] at hc
 simp at hc
theorem g2o {b:PBook} {j:Nat} (h:∀ d:Nat,d<b.st.days.length->b.a4k (e6u.put j d)=false):(b.alone j).length=0:=by
 rw [PBook.alone,f8u,g2b _ (fun d hd=>h d hd)];rfl
theorem g2s {b:PBook} (hs:PSane b) (hk:∀ d:Nat,b.e5i d=[]) {x:D3} (hx:x∈b.plans):∀ n∈b.e6F b.rehs.length,∃ j:Nat,n=j/\j<(b.told x).length/\(b.told x)[j]?=some 9:=by
 intro n hn
 rw [f8v] at hn
 obtain ⟨j,rfl,hj,hf⟩:=g2d _ _ _ hn
 have hr3:=hs.r3
 have htl:=g0h hr3 x
 obtain ⟨d,hd⟩:∃ d,x.l[j]?=some d:=⟨_,List.getElem?_eq_getElem (show j<3 by omega)⟩
 have ht:(b.told x)[j]?=some d:=by rw [PBook.told,List.getElem?_take,if_pos hj,hd]
 refine ⟨j,rfl,by omega,?_⟩
 by_cases h9:d=9
 ·rw [ht,h9]
 ·exfalso
  obtain ⟨y,hy⟩:∃ y,b.rehs[j]?=some y:=⟨_,List.getElem?_eq_getElem hj⟩
  have hw:=(g0L hs hx hy hd).resolve_left h9
  have hr:=hs.rh y (List.mem_of_getElem? hy)
  have:=g2u hs hk (((g0s hs).2 x).1 hx).1 hd h9
  obtain ⟨e,rfl⟩:∃ e:Nat,d=e:=⟨d.toNat,by omega⟩
  exact g2p (by omega) this (of_decide_eq_true hf)
theorem g2y {b:PBook} (hs:PSane b) (h:b.plans=[]):(b.e6F b.rehs.length).length=b.rehs.length:=by
 rw [f8v]
 refine g2j _ _ fun j hj=>decide_eq_true (g2o fun d hd=>?_)
 rw [Bool.eq_false_iff]
 intro hp
 have:=((g0s hs).2 (e6u.put j d)).2 ⟨hp,f3s b _ _ _ (f1u b) hj (by have:=hs.r3;omega)⟩
 rw [h] at this;cases this
def WB (b:PBook) (be bg ti:Int) (m h:C):List C:=[ci be,ci b.cold.days,ci bg,ci ti,ci b.cold.o.lo,ci b.cold.o.hi,ci b.cold.g.lo,ci b.cold.g.hi,m,ci b.cold.rooms,h]++b.st.c++[.sl b.kl 1 (nums b.sleeps),.sl b.kr 3 (b.rehs.map Reh.c)]
section
variable (b:PBook) (be bg ti v:Int) (m h c:C)
@[go_sem] theorem PBook.g2T:b.c.set 0 (ci v)=WB b v b.cold.begins b.cold.til (.sl b.cold.km 2 (b.cold.moves.map Move.c)) (.sl b.cold.kh 3 (b.cold.heard.map Hear.c)):=nrfl rfl
@[go_sem] theorem g2P:(WB b be bg ti m h).set 2 (ci v)=WB b be v ti m h:=nrfl rfl
@[go_sem] theorem g2Q:(WB b be bg ti m h).set 3 (ci v)=WB b be bg v m h:=nrfl rfl
@[go_sem] theorem g2R:(WB b be bg ti m h).set 8 c=WB b be bg ti c h:=nrfl rfl
@[go_sem] theorem g2O:(WB b be bg ti m h).set 10 c=WB b be bg ti m c:=nrfl rfl
@[go_sem] theorem g2M:a0R (WB b be bg ti m h) 0 23=some (WB b be bg ti m h):=nrfl rfl
@[go_sem] theorem g2N:(WB b be bg ti m h).length=23:=nrfl rfl
@[go_sem] theorem g2S:(WB b be bg ti m h).map a0r=WB b be bg ti (a0r m) (a0r h):=nrfl rfl
@[go_sem] theorem g2K (n:Nat):C.a0G n (WB b be bg ti m h)=C.a0G n [m,h]:=nrfl rfl
@[go_sem] theorem g2L:C.a0v (WB b be bg ti m h)=C.a0v [m,h]:=nrfl rfl
theorem g2I:b.one.c=WB b (b.cold.beds+1) (2 ^ b.cold.beds.toNat) 0 (.sl b.one.cold.km 2 (b.one.cold.moves.map Move.c)) (.sl .nil 3 []):=rfl
end
instance fits_one (b:PBook) [hb:b.Fits]:b.one.Fits:=⟨⟨by show (if 1<b.cold.days then [(⟨b.cold.beds - 1,1⟩:Move)] else []).length<=_;split<;>simp,by show (0:Nat)<=_;omega⟩,hb.st,hb.sl,hb.rh,hb.nk⟩
section
variable {Γ:Env} [P04 Γ] [G04 Γ] [GCo Γ] [GPr Γ]
theorem g2G (b:PBook) [hb:b.Fits] (hs:PSane b) (kp kn:SK) (P N:List Int) (e f g:Int) (hk:∀ d:Nat,d<b.st.days.length->K Γ (.fn 238) [.agg b.one.c,vi d] []=some (.tup [.sc (.sl .nil 1 []),vi g],[]))
 (hg:g=0\/(g=102/\e=102/\f=102)) {β:Type} (Q:Ex->St->Option β) :
 E Γ g1Y ⟨[(1,.sc (.ptr 0 0)),(3,.sc (.ptr 1 0)),(4,.sc (.sl kp 1 (nums P))),(5,vi e),(6,.sc (.sl kn 1 (nums N))),(7,vi f),(8,vi 0)],[.var b.c,.var b.one.c]⟩ Q =
 Q (.exit 0) ⟨[(1,.sc (.ptr 0 0)),(3,.sc (.ptr 1 0)),(4,.sc (.sl kp 1 (nums P))),(5,vi e),(6,.sc (.sl kn 1 (nums N))),(7,vi f),(8,vi b.st.days.length),(70,vb false)],[.var b.c,.var b.one.c]⟩:=by
 have hd5:=hs.st.d5
 refine (a4Q (fun j=>⟨[(1,.sc (.ptr 0 0)),(3,.sc (.ptr 1 0)),(4,.sc (.sl kp 1 (nums P))),(5,vi e),(6,.sc (.sl kn 1 (nums N))),(7,vi f),(8,vi j)],[.var b.c,.var b.one.c]⟩) b.st.days
  (.exit 0,⟨[(1,.sc (.ptr 0 0)),(3,.sc (.ptr 1 0)),(4,.sc (.sl kp 1 (nums P))),(5,vi e),(6,.sc (.sl kn 1 (nums N))),(7,vi f),(8,vi b.st.days.length),(70,vb false)],[.var b.c,.var b.one.c]⟩) Q rfl ?_ ?_).trans rfl
 ·intro j z hz
  have hj:=(List.getElem?_eq_some_iff.1 hz).1
  have hlt:=decide_eq_true (show (j:Int)<b.st.days.length by omega)
  have hjw:IntKind.i64.wrap ((j:Int)+1)=j+1:=wrap_i64 (by omega) (by omega)
  have hK:=hk j hj
  rcases hg with rfl|⟨rfl,rfl,rfl⟩<;>(simp only [go_sem,simprocAttr,g1W,hlt,hjw,hK,List.length_map];repeat' ((first|refine brY ?_|refine brN ?_|refine brA ?_|refine brD ?_|refine brF ?_);(try simp only [go_sem,simprocAttr,g1W,hlt,hjw,hK,List.length_map])))<;>rfl
 ·have hlt:=decide_eq_false (show ¬ (b.st.days.length:Int)<b.st.days.length by omega)
  (simp only [go_sem,simprocAttr,g1W,hlt,List.length_map];repeat' ((first|refine brY ?_|refine brN ?_|refine brA ?_|refine brD ?_|refine brF ?_);(try simp only [go_sem,simprocAttr,g1W,hlt,List.length_map])))
theorem g2H (kp kn:SK) (P N:List Int) (hP:P.length<=3) (hN:N.length<=3) (h:∀ n∈N,∃ j:Nat,n=j/\j<P.length/\P[j]?=some 9) (b:PBook) {β:Type} (Q:Ex->St->Option β) :
 E Γ g1Z ⟨[(4,.sc (.sl kp 1 (nums P))),(6,.sc (.sl kn 1 (nums N))),(13,vi 0)],[.var b.c,.var b.one.c]⟩ Q =
 Q (.exit 2) ⟨[(4,.sc (.sl kp 1 (nums P))),(6,.sc (.sl kn 1 (nums N))),(13,vi N.length),(158,vb false)],[.var b.c,.var b.one.c]⟩:=by
 refine (a4Q (fun j=>⟨[(4,.sc (.sl kp 1 (nums P))),(6,.sc (.sl kn 1 (nums N))),(13,vi j)],[.var b.c,.var b.one.c]⟩) N
  (.exit 2,⟨[(4,.sc (.sl kp 1 (nums P))),(6,.sc (.sl kn 1 (nums N))),(13,vi N.length),(158,vb false)],[.var b.c,.var b.one.c]⟩) Q rfl ?_ ?_).trans rfl
 ·intro j n hn
  have hj:=(List.getElem?_eq_some_iff.1 hn).1
  obtain ⟨i,rfl,hi,hp⟩:=h n (List.mem_of_getElem? hn)
  have hlt:=decide_eq_true (show (j:Int)<N.length by omega)
  have hjw:IntKind.i64.wrap ((j:Int)+1)=j+1:=wrap_i64 (by omega) (by omega)
  have hpw:IntKind.i64.wrap ((P.length:Int) - 1)=P.length - 1:=wrap_i64 (by omega) (by omega)
  have hNn:(nums N)[j]?=some [ci i]:=by rw [e7n,hn];rfl
  have hPn:(nums P)[i]?=some [ci 9]:=by rw [e7n,hp];rfl
  have hw:within (i:Int) 0 ((P.length:Int) - 1)=true:=within_iff.2 (by omega)
  have hbi:decide (0<=(i:Int)/\(i:Int)<P.length)=true:=decide_eq_true (by omega)
  (simp only [go_sem,simprocAttr,g1X,hlt,hjw,hpw,hNn,hPn,hw,hbi,e4t,Int.toNat_natCast];repeat' ((first|refine brY ?_|refine brN ?_|refine brA ?_|refine brD ?_|refine brF ?_);(try simp only [go_sem,simprocAttr,g1X,hlt,hjw,hpw,hNn,hPn,hw,hbi,e4t,Int.toNat_natCast])))
  rfl
 ·have hlt:=decide_eq_false (show ¬ (N.length:Int)<N.length by omega)
  (simp only [go_sem,simprocAttr,g1X,hlt,e4t];repeat' ((first|refine brY ?_|refine brN ?_|refine brA ?_|refine brD ?_|refine brF ?_);(try simp only [go_sem,simprocAttr,g1X,hlt,e4t])))
theorem g2g (b:PBook) [hb:b.Fits]:K Γ (.fn 357) [.agg b.c] []=some (vb true,[]):=by
 cases hv:b.valid with
 | false =>
  rw [K_fn P04.f357 _ _ rfl]
  (simp only [go_sem,simprocAttr,g1V,hv];repeat' ((first|refine brY ?_|refine brN ?_|refine brA ?_|refine brD ?_|refine brF ?_);(try simp only [go_sem,simprocAttr,g1V,hv])))
 | true =>
  have hs:=e6h hv
  have hb5:=hs.cold.b1;have hr3:=hs.r3
  by_cases h5:b.cold.beds=5
  ·have d5:decide (b.cold.beds=5)=true:=decide_eq_true h5
   rw [K_fn P04.f357 _ _ rfl]
   (simp only [go_sem,simprocAttr,g1V,hv,d5];repeat' ((first|refine brY ?_|refine brN ?_|refine brA ?_|refine brD ?_|refine brF ?_);(try simp only [go_sem,simprocAttr,g1V,hv,d5])))
  have d5:decide (b.cold.beds=5)=false:=decide_eq_false h5
  have hv1:=g2t hv (by omega)
  have hs1:=e6h hv1
  have hk0:=g2D hv (by omega)
  have hbw:IntKind.i64.wrap (b.cold.beds+1)=b.cold.beds+1:=wrap_i64 (by omega) (by omega)
  have hbm:IntKind.i64.wrap (b.cold.beds - 1)=b.cold.beds - 1:=wrap_i64 (by omega) (by omega)
  have hsn:decide (b.cold.beds<0)=false:=decide_eq_false (by omega)
  have hsh:IntKind.i64.wrap (1*2 ^ Nat.min b.cold.beds.toNat IntKind.i64.bits)=2 ^ b.cold.beds.toNat:=by
   obtain ⟨c,hc⟩:∃ c:Nat,b.cold.beds.toNat=c:=⟨_,rfl⟩
   have:c=1\/c=2\/c=3\/c=4:=by omega
   rw [hc]
   rcases this with rfl|rfl|rfl|rfl<;>decide
  have hP:=f1h (Γ:=Γ) b.one
  have hN:=f2M (Γ:=Γ) b.one
  have hK (d:Nat) (hd:d<b.st.days.length):K Γ (.fn 238) [.agg b.one.c,vi d] []=some (.tup [.sc (.sl .nil 1 []),vi (b.one.err true)],[]):=by
   have h:=e9Q (Γ:=Γ) b.one d
   have hisd:b.one.a2O d=true:=within_iff.2 (by show 0<=(d:Int)/\(d:Int)<=(b.st.days.length:Int) - 1;omega)
   have e:b.one.kept d=([],b.one.err true):=by
    simp only [PBook.kept,hisd,hk0]
    split
    ·rename_i h0;rw [h0]
    ·rfl
   rw [e] at h
   exact h
  have h1c:=g2I b
  have d1:decide (1<b.cold.days)=true/\b.one.cold.km=.full/\b.one.cold.moves=[⟨b.cold.beds - 1,1⟩]\/decide (1<b.cold.days)=false/\b.one.cold.km=.nil/\b.one.cold.moves=[]:=by
   by_cases h:1<b.cold.days
   ·exact .inl ⟨decide_eq_true h,if_pos h,if_pos h⟩
   ·exact .inr ⟨decide_eq_false h,if_neg h,if_neg h⟩
  obtain ⟨u,m,hu,hm,hcell⟩:∃ (u:Bool) (m:C),decide (1<b.cold.days)=u/\m=(if u then .sl .full 2 [[ci (b.cold.beds - 1),ci 1]] else .sl .nil 2 [])/\WB b (b.cold.beds+1) (2 ^ b.cold.beds.toNat) 0 m (.sl .nil 3 [])=b.one.c:=by
   rcases d1 with ⟨e1,e2,e3⟩|⟨e1,e2,e3⟩
   ·exact ⟨true,_,e1,rfl,by rw [h1c,e2,e3];rfl⟩
   ·exact ⟨false,_,e1,rfl,by rw [h1c,e2,e3];rfl⟩
  have hL {β:Type} (kp kn:SK) (P N:List Int) (e f:Int) (hg:b.one.err true=0\/(b.one.err true=102/\e=102/\f=102)) (Q:Ex->St->Option β):=g2G (Γ:=Γ) b hs kp kn P N e f _ hK hg Q
  clear d1 h1c
  cases hc:b.one.can with
  | false =>
   have he:b.one.err true=102:=by simp [PBook.err,hv1,hc]
   have e1:b.one.plan=([],102):=by simp [PBook.plan,he]
   have e2:b.one.never=([],102):=by simp [PBook.never,he]
   rw [e1] at hP
   rw [e2] at hN
   have hL' {β:Type} (kp kn:SK) (Q:Ex->St->Option β):=hL kp kn [] [] 102 102 (.inr ⟨he,rfl,rfl⟩) Q
   simp only [nums,List.map_nil] at hP hN hL'
   cases u<;>simp only [Bool.false_eq_true,if_false,if_true] at hm<;>subst hm<;>rw [K_fn P04.f357 _ _ rfl] <;>
    (simp only [go_sem,simprocAttr,g1V,hv,d5,hbw,hbm,hsn,hsh,hu,hcell,hP,hN,hL',List.length_map];repeat' ((first|refine brY ?_|refine brN ?_|refine brA ?_|refine brD ?_|refine brF ?_);(try simp only [go_sem,simprocAttr,g1V,hv,d5,hbw,hbm,hsn,hsh,hu,hcell,hP,hN,hL',List.length_map])))
  | true =>
   have he:b.one.err true=0:=by simp [PBook.err,hv1,hc]
   have e2:b.one.never=(b.one.e6F b.one.rehs.length,0):=by simp only [PBook.never,if_pos he]
   rw [e2] at hN
   have hbs:=g0J hs1
   have e1:=g1U hv1 hc
   have hL' {β:Type} (kp kn:SK) (P N:List Int) (e f:Int) (Q:Ex->St->Option β):=hL kp kn P N e f (.inl he) Q
   have hNl:=e9W b.one b.one.rehs.length
   have hrl:b.one.rehs.length=b.rehs.length:=rfl
   cases hx:b.one.best with
   | none =>
    rw [hx] at hbs e1
    simp only at e1
    rw [e1] at hP
    have hall:=g2y hs1 hbs
    rw [hrl] at hall
    have hN0 {β:Type} (kp kn:SK) (e f:Int) (Q:Ex->St->Option β):=hL' kp kn [] (b.one.e6F b.rehs.length) e f Q
    simp only [nums,List.map_nil] at hP hN0
    simp only [hrl] at hN
    generalize b.one.e6F b.rehs.length=N at *
    have dl:decide ((N.length:Int)=b.rehs.length)=true:=decide_eq_true (by omega)
    simp only [nums] at hN
    cases u<;>simp only [Bool.false_eq_true,if_false,if_true] at hm<;>subst hm<;>rw [K_fn P04.f357 _ _ rfl] <;>
     (simp only [go_sem,simprocAttr,g1V,hv,d5,hbw,hbm,hsn,hsh,hu,hcell,hP,hN,hN0,dl,List.length_map];repeat' ((first|refine brY ?_|refine brN ?_|refine brA ?_|refine brD ?_|refine brF ?_);(try simp only [go_sem,simprocAttr,g1V,hv,d5,hbw,hbm,hsn,hsh,hu,hcell,hP,hN,hN0,dl,List.length_map])))
   | some x =>
    rw [hx] at hbs e1
    simp only at e1
    rw [e1] at hP
    obtain ⟨hxp,hxf⟩:=((g0s hs1).2 x).1 hbs.1
    have htl:=g0h hs1.r3 x
    rw [hrl] at htl
    have hnv:=g2s hs1 hk0 hbs.1
    have hKx (k:SK):=f2L (Γ:=Γ) b.one k (b.one.told x) (by omega)
    have ekx:b.one.e8C (b.one.told x)=(0,0):=by simp only [PBook.e8C,if_pos he,g0h hs1.r3 x,decide_true,g0n hs1.r3 hxf,hxp,Bool.true_and,if_true,g2q hs1 hk0 hbs.1]
    simp only [ekx] at hKx
    simp only [hrl] at hN hnv hNl
    generalize b.one.told x=P at *
    generalize b.one.e6F b.rehs.length=N at *
    generalize b.one.b2o=kp at *
    have hL1 {β:Type} (kn:SK) (Q:Ex->St->Option β):=g2H (Γ:=Γ) kp kn P N (by omega) (by omega) hnv b Q
    have dl:decide ((P.length:Int)=b.rehs.length)=true:=decide_eq_true (by omega)
    cases u<;>simp only [Bool.false_eq_true,if_false,if_true] at hm<;>subst hm<;>rw [K_fn P04.f357 _ _ rfl] <;>
     (simp only [go_sem,simprocAttr,g1V,hv,d5,hbw,hbm,hsn,hsh,hu,hcell,hP,hN,hL',hL1,hKx,dl,e4t,List.length_map];repeat' ((first|refine brY ?_|refine brN ?_|refine brA ?_|refine brD ?_|refine brF ?_);(try simp only [go_sem,simprocAttr,g1V,hv,d5,hbw,hbm,hsn,hsh,hu,hcell,hP,hN,hL',hL1,hKx,dl,e4t,List.length_map])))
end
end Go.Pm.St
