/- The statement PracticeFirst, part 8. -/
import Derived.Test.YtdockaglpfejhaaGreatDoorPracticeFirstL7
set_option linter.all false
set_option maxRecDepth 100000
namespace Go.Pm.St
abbrev Book.dd (b:Book) (ds:List Day):Book:={ b with kd:=.shared,days:=ds }
structure Less (o:Int) (ds ds':List Day):Prop where
 len:ds'.length=ds.length
 less:∀ (d:Nat) z z',ds[d]?=some z->ds'[d]?=some z'->z'.plain<=z.plain/\z'.full=z.full/\z'.needs<=z.needs/\((d:Int)<o->z'.plain=z.plain)
theorem Less.get {o:Int} {ds ds':List Day} (h:Less o ds ds') (d:Nat):(ds[d]?=none/\ds'[d]?=none)\/∃ z z',ds[d]?=some z/\ds'[d]?=some z'/\z'.plain<=z.plain/\z'.full=z.full/\z'.needs<=z.needs/\((d:Int)<o->z'.plain=z.plain):=by
 by_cases hd:d<ds.length
 ·right
  have hd':d<ds'.length:=by have:=h.len;omega
  exact ⟨_,_,List.getElem?_eq_getElem hd,List.getElem?_eq_getElem hd',h.less d _ _ (List.getElem?_eq_getElem hd) (List.getElem?_eq_getElem hd')⟩
 ·exact .inl ⟨List.getElem?_eq_none (by omega),List.getElem?_eq_none (by have:=h.len;omega)⟩
theorem g1i {o:Int} {ds ds':List Day} (h:Less o ds ds') {c:Cost} {s:Int} {r:Nat->Bool}:∀ d:Nat,(d:Int)<=o->nowAt ds' c s r d=nowAt ds c s r d
 | 0,_=>rfl
 | d+1,hd=>by
  have ih:=g1i h (c:=c) (s:=s) (r:=r) d (by omega)
  rcases h.get d with ⟨e1,e2⟩|⟨z,z',e1,e2,h1,h2,h3,h4⟩
  ·simp only [nowAt,e1,e2,ih]
  ·simp only [nowAt,e1,e2,ih,Day.after,h2,h4 (by omega)]
theorem g1e {o:Int} {ds ds':List Day} (h:Less o ds ds') {c:Cost} {s:Int} {r:Nat->Bool} (d:Nat) (hd:(d:Int)<o):a2B ds' c s r d=a2B ds c s r d:=by
 have ih:=g1i h (c:=c) (s:=s) (r:=r) d (by omega)
 rcases h.get d with ⟨e1,e2⟩|⟨z,z',e1,e2,h1,h2,h3,h4⟩
 ·simp only [a2B,e1,e2,ih]
 ·simp only [a2B,e1,e2,ih,Day.after,h2,h4 hd]
theorem g1d {z z':Day} (h1:z'.plain<=z.plain) (h2:z'.full=z.full) {c:Cost} (hp:0<=c.p) {r:Bool} {n n':Int} (hn:n<=n'):z.after c r n<=z'.after c r n':=by
 have:=Int.mul_le_mul_of_nonneg_right h1 hp
 simp only [Day.after,h2]
 split<;>omega
theorem g1m {o:Int} {ds ds':List Day} (h:Less o ds ds') {c:Cost} (hp:0<=c.p) {s:Int} {r:Nat->Bool}:∀ d:Nat,nowAt ds c s r d<=nowAt ds' c s r d
 | 0=>Int.le_refl _
 | d+1=>by
  have ih:=g1m h hp (s:=s) (r:=r) d
  rcases h.get d with ⟨e1,e2⟩|⟨z,z',e1,e2,h1,h2,h3,h4⟩
  ·simp only [nowAt,e1,e2];exact ih
  ·have:=g1d h1 h2 hp (r:=r d) ih
   simp only [nowAt,e1,e2];omega
theorem g1B {o:Int} {ds ds':List Day} (h:Less o ds ds') {c:Cost} (hp:0<=c.p) {s:Int} {r:Nat->Bool} (d:Nat):a2B ds c s r d<=a2B ds' c s r d:=by
 have ih:=g1m h hp (s:=s) (r:=r) d
 rcases h.get d with ⟨e1,e2⟩|⟨z,z',e1,e2,h1,h2,h3,h4⟩
 ·simp only [a2B,e1,e2];exact ih
 ·have:=g1d h1 h2 hp (r:=r d) ih
  simp only [a2B,e1,e2];omega
theorem g1A {o:Int} {ds ds':List Day} (h:Less o ds ds') (d:Nat):a5d ds' d=a5d ds d:=by
 rcases h.get d with ⟨e1,e2⟩|⟨z,z',e1,e2,h1,h2,h3,h4⟩
 ·simp only [a5d,e1,e2]
 ·simp only [a5d,e1,e2,h2]
theorem g1v {o:Int} {ds ds':List Day} (h:Less o ds ds') (r:Nat->Bool) (d:Nat):third ds' r d=third ds r d:=by
 simp only [third,g1A h]
theorem g1r {l:List Sign} {x:Sign} (h:x∈l):x.day<a2b l:=by
 have key:∀ (l:List Sign) (n:Int),n<=l.foldl (fun n x=>max n (x.day+1)) n/\∀ x∈l,x.day+1<=l.foldl (fun n x=>max n (x.day+1)) n:=by
  intro l
  induction l with
  | nil=>intro n;exact ⟨Int.le_refl _,fun x hx=>by cases hx⟩
  | cons y l ih =>
   intro n
   obtain ⟨h1,h2⟩:=ih (max n (y.day+1))
   simp only [List.foldl_cons]
   refine ⟨by omega,fun x hx=>?_⟩
   rcases List.mem_cons.1 hx with rfl|hx
   ·omega
   ·exact h2 x hx
 have:=(key l 0).2 x h
 simp only [a2b];omega
theorem g1G {b:Book} {ds ds':List Day} (h:Less (a2b b.signs) ds ds') (hs:Sane (b.dd ds)) {c:Cost} {st:Nat->Int} (w:Can (b.dd ds) c st):Can (b.dd ds') c st:=by
 refine ⟨w.c0,w.c1,w.c2,w.str,fun j x hx hb=>?_⟩
 have hf:=w.sg j x hx hb
 have hm:x∈b.signs:=List.mem_of_getElem? hx
 have hd:=g1r hm
 have h0:=(hs.sg x hm).2.1
 simp only [Book.fair] at hf ⊢
 rw [g1e h x.day.toNat (by omega)]
 exact hf
theorem g1z {b:Book} {ds ds':List Day} (h:Less (a2b b.signs) ds ds') (hs:Sane (b.dd ds)) {c:Cost} {st:Nat->Int} (w:Can (b.dd ds') c st):Can (b.dd ds) c st:=by
 refine ⟨w.c0,w.c1,w.c2,w.str,fun j x hx hb=>?_⟩
 have hf:=w.sg j x hx hb
 have hm:x∈b.signs:=List.mem_of_getElem? hx
 have hd:=g1r hm
 have h0:=(hs.sg x hm).2.1
 simp only [Book.fair] at hf ⊢
 rw [g1e h x.day.toNat (by omega)] at hf
 exact hf
theorem g0W {b:Book} {l:List Rest}:(b.safe l).1=true<->b.err (b.a4k l)=0/\b.b5J (a1M b.F l)=true/\b.enough (a1M b.F l)=true:=by
 unfold Book.safe
 split
 ·rename_i h;simp [h]
 ·rename_i h;simp [h]
theorem g1n {b:Book} {F:List Int->Bool} {i:Nat}:b.well F i=true<->∀ k,k<b.days.length - b.o->b.harm i (b.o+k) (onF F i)=false:=by
 rw [Book.well,Option.isNone_iff_eq_none,a3y]
theorem g1p {b:Book} {F:List Int->Bool}:b.b5J F=true<->∀ i,i<b.singers.length->b.well F i=true:=by
 rw [Book.b5J,Option.isNone_iff_eq_none,a3y]
 simp
theorem g1t {b:Book} {F:List Int->Bool}:b.enough F=true<->∀ k,k<b.days.length - b.o->b.a8P (b.o+k)<=b.sing F (b.o+k):=by
 rw [Book.enough,Option.isNone_iff_eq_none,a3y]
 simp
theorem g1I {b:Book} (hv:b.valid=true) (hne:b.now≠[]):b.err true=0:=by
 rw [_root_.Go.Pm.St.a5Z hv]
 cases h:b.now with
 | nil=>exact absurd h hne
 | cons x l=>rfl
theorem g1D {b:Book} {ds ds':List Day} (h:Less (a2b b.signs) ds ds') (hv':(b.dd ds').valid=true) {l:List Rest} (hs:((b.dd ds).safe l).1=true):((b.dd ds').safe l).1=true:=by
 obtain ⟨he,hw,hn⟩:=g0W.1 hs
 obtain ⟨hv,hp,hne⟩:=a5T he
 have sn:=a2n.1 hv
 have sn':=a2n.1 hv'
 obtain ⟨c0,st0,w0⟩:=(d1Q sn).1 hne
 have hne':(b.dd ds').now≠[]:=(d1Q sn').2 ⟨c0,st0,g1G h sn w0⟩
 have hp':(b.dd ds').a4k l=true:=by
  rw [b6w] at hp ⊢
  intro i y hy
  have:=hp i y hy
  simp only [Book.a2O,Book.a1f,h.len] at this ⊢
  exact this
 refine g0W.2 ⟨by rw [hp'];exact g1I hv' hne',?_,?_⟩
 ·rw [g1p] at hw ⊢
  intro i hi
  have hwi:=g1n.1 (hw i hi)
  refine g1n.2 fun k hk=>?_
  have h1:=hwi k (by have:=h.len;simp only [Book.dd,Book.o] at hk ⊢;omega)
  simp only [Book.harm,Bool.or_eq_false_iff,decide_eq_false_iff_not] at h1 ⊢
  refine ⟨by rw [g1v h];exact h1.1,fun hlt=>?_⟩
  obtain ⟨⟨c,st,w,e⟩, -⟩:=d1A sn' hne' hi (b.o+k) (onF (a1M b.F l) i)
  have h2:=(d1A sn hne hi (b.o+k) (onF (a1M b.F l) i)).2 c st (g1z h sn w)
  have hp0:0<=c.p:=by
   have h0:0<=b.c0.lo:=sn.k0.1
   have h1:b.c0.lo<=c.p:=w.c0.1
   exact Int.le_trans h0 h1
  have h3:=g1B h hp0 (s:=st i) (r:=onF (a1M b.F l) i) (b.o+k)
  have e':(b.dd ds').low i (b.o+k) (onF (a1M b.F l) i)=a2B ds' c (st i) (onF (a1M b.F l) i) (b.o+k):=e
  have hlt':(b.dd ds').low i (b.o+k) (onF (a1M b.F l) i)<0:=hlt
  have h2':(b.dd ds).low i (b.o+k) (onF (a1M b.F l) i)<=a2B ds c (st i) (onF (a1M b.F l) i) (b.o+k):=h2
  exact h1.2 (Int.lt_of_le_of_lt (Int.le_trans h2' h3) (by rw [← e'];exact hlt'))
 ·rw [g1t] at hn ⊢
  intro k hk
  have h1:=hn k (by have:=h.len;simp only [Book.dd,Book.o] at hk ⊢;omega)
  have e:(b.dd ds').a8P (b.o+k)<=(b.dd ds).a8P (b.o+k):=by
   rcases h.get (b.o+k) with ⟨e1,e2⟩|⟨z,z',e1,e2,h1,h2,h3,h4⟩
   ·simp only [Book.a8P,e1,e2];exact Int.le_refl _
   ·simp only [Book.a8P,e1,e2];exact h3
  exact Int.le_trans e h1
end Go.Pm.St
namespace Go.Pm.St
abbrev PBook.reh (b:PBook) (k:SK) (l:List Reh):PBook:={ b with kr:=k,rehs:=l }
theorem g0Y (b:PBook) (k:SK) (l:List Reh) (L:List (Int × Int × Bool)) (day:Nat):∀ j,(b.reh k l).e7e L day j=b.e7e L day j
 | 0=>rfl
 | j+1=>by simp only [PBook.e7e,g0Y b k l L day j]
theorem g1f (b:PBook) (k:SK) (l:List Reh):∀ d,(b.reh k l).e7Y d=b.e7Y d
 | 0=>rfl
 | d+1=>by simp only [PBook.e7Y,g0Y,g1f b k l d]
theorem g1h (b:PBook) (k:SK) (l:List Reh) (d:Int):∀ j,(b.reh k l).d2x d j=b.d2x d j
 | 0=>rfl
 | j+1=>by simp only [PBook.d2x,PBook.e7q,g1f,g1h b k l d j];rfl
theorem g1c (b:PBook) (k:SK) (l:List Reh) (d:Int):(b.reh k l).e5i d=b.e5i d:=g1h b k l d _
theorem g1q (b:PBook) (k:SK) (l:List Reh) (on:List Int):(b.reh k l).e5W on=b.e5W on:=by
 simp only [PBook.e5W,g1c];rfl
theorem g1y (b:PBook) (k:SK) (l:List Reh) (x:D3):(b.reh k l).keeps x=b.keeps x:=by
 simp only [PBook.keeps,PBook.e6K,g1c]
theorem g1a (b:PBook) (k:SK) (l:List Reh) (x y:D3):(b.reh k l).better x y=b.better x y:=by
 simp only [PBook.better,g1y]
theorem g1l {b:PBook} (hv:b.valid=true) (k:SK) {l:List Reh} (h3:l.length<=3) (hl:∀ y∈l,b.e8d y=true):(b.reh k l).valid=true:=by
 have hb:=PBook.e8i.1 (e8r hv)
 simp only [PBook.valid,Bool.and_eq_true] at hv ⊢
 exact ⟨⟨PBook.e8i.2 ⟨hb.1,hb.2.1,hb.2.2.1,hb.2.2.2.1,h3⟩,hv.1.2⟩,List.all_eq_true.2 hl⟩
theorem g1s {b:PBook} (hv:b.valid=true):∀ y∈b.rehs,b.e8d y=true:=by
 simp only [PBook.valid,Bool.and_eq_true] at hv
 exact List.all_eq_true.1 hv.2
theorem g1C {b:PBook} {y:Reh}:b.e8d y=true<->(0<=y.fr/\y.fr<b.st.days.length)/\(0<=y.til/\y.til<b.st.days.length)/\y.fr<=y.til/\(0<=y.wants/\y.wants<=3):=by
 simp only [PBook.e8d,Bool.and_eq_true,PBook.a2O,within_iff,decide_eq_true_eq]
 constructor
 ·rintro ⟨⟨⟨h1,h2⟩,h3⟩,h4⟩;omega
 ·rintro ⟨h1,h2,h3,h4⟩;exact ⟨⟨⟨by omega,by omega⟩,h3⟩,by omega⟩
theorem g1w {b:Book} {o:Int} {ds ds':List Day} (h:Less o ds ds') (h0:∀ z∈ds',0<=z.plain/\0<=z.needs) (hv:(b.dd ds).valid=true):(b.dd ds').valid=true:=by
 obtain ⟨s,hg⟩:=a8w.1 hv
 refine a8w.2 ⟨{ s with d1:=?_,d5:=?_,dy:=fun z hz=>?_,rs:=fun x hx=>?_,sg:=fun x hx=>?_ },hg⟩
 ·have:=s.d1;have:=h.len;simp only [Book.dd] at *;omega
 ·have:=s.d5;have:=h.len;simp only [Book.dd] at *;omega
 ·obtain ⟨d,hd⟩:=List.mem_iff_getElem?.1 hz
  rcases h.get d with ⟨e1,e2⟩|⟨w,w',e1,e2,h1,h2,h3,h4⟩
  ·have hd':ds'[d]?=some z:=hd
   rw [e2] at hd';cases hd'
  ·have hd':ds'[d]?=some z:=hd
   rw [e2] at hd'
   cases hd'
   have:=h0 _ hz
   have:=s.dy w (List.mem_of_getElem? e1)
   omega
 ·have:=s.rs x hx;have:=h.len;simp only [Book.dd] at *;omega
 ·have:=s.sg x hx;have:=h.len;simp only [Book.dd] at *;omega
theorem g1g (b:PBook) (l m:List Int) (d:Nat):(b.f8J l m)[d]?=(b.st.days[d]?).map fun z=>b.dayOf l m d z:=by
 rw [PBook.f8J,List.getElem?_mapIdx]
theorem g1E {b:PBook} (hs:PSane b) (l m:List Int):∀ z∈b.f8J l m,0<=z.plain/\0<=z.needs:=by
 intro z hz
 obtain ⟨d,hd⟩:=List.mem_iff_getElem?.1 hz
 rw [g1g] at hd
 cases h:b.st.days[d]? with
 | none=>rw [h] at hd;cases hd
 | some w =>
  rw [h] at hd
  have hw:=hs.st.dy w (List.mem_of_getElem? h)
  cases hd
  simp only [PBook.dayOf]
  split
  ·constructor
   ·show 0<=w.plain+1;omega
   ·show 0<=max w.needs _;omega
  ·exact ⟨hw.1.1,hw.2.2.1⟩
theorem g0X {b:PBook} (hs:PSane b) {k:SK} {l:List Reh} (hv':(b.reh k l).valid=true) {x:D3}
 (H:∀ (i:Nat) (d:Int) (y:Reh),x.l[i]?=some d->d≠9->b.rehs[i]?=some y->∃ y',l[i]?=some y'/\y'.fr<=y.fr/\y.til<=y'.til/\y'.wants<=y.wants)
 (h:b.a4k x=true):(b.reh k l).a4k x=true:=by
 have hs':=e6h hv'
 have hd5:=hs.st.d5
 rw [f9w b hs,Bool.and_eq_true] at h
 obtain ⟨ho,hsf⟩:=h
 have reh:∀ (i:Nat) d,x.l[i]?=some d->d≠9->b.okAt x i=true->∃ y,b.rehs[i]?=some y:=fun i d hd h9 hk=>by
  simp only [PBook.okAt,hd,Bool.or_eq_true,decide_eq_true_eq,Bool.and_eq_true,Bool.not_eq_true'] at hk
  rcases hk with hk|⟨⟨h1,h2⟩,h3⟩
  ·exact absurd hk h9
  ·cases hy:b.rehs[i]? with
   | none=>rw [hy] at h1;cases h1
   | some y=>exact ⟨y,rfl⟩
 have at_:∀ i,b.okAt x i=true->(b.reh k l).okAt x i=true:=fun i hk=>by
  cases hd:x.l[i]? with
  | none=>simp only [PBook.okAt,hd]
  | some d =>
   by_cases h9:d=9
   ·simp only [PBook.okAt,hd,decide_eq_true h9,Bool.true_or]
   ·obtain ⟨y,hy⟩:=reh i d hd h9 hk
    obtain ⟨y',hy',q1,q2,q3⟩:=H i d y hd h9 hy
    simp only [PBook.okAt,hd,hy,hy',Bool.or_eq_true,decide_eq_true_eq,Bool.and_eq_true,Bool.not_eq_true',within_iff] at hk ⊢
    rcases hk with hk|⟨⟨h1,h2⟩,h3⟩
    ·exact .inl hk
    ·have h1':max b.e7T y.fr<=d/\d<=y.til:=h1
     exact .inr ⟨⟨by show max b.e7T y'.fr<=d/\d<=y'.til;omega,h2⟩,h3⟩
 have hk:=g0Q ho
 rw [f9w _ hs',Bool.and_eq_true]
 refine ⟨by simp only [PBook.f8W,at_ 0 (hk 0 (by omega)),at_ 1 (hk 1 (by omega)),at_ 2 (hk 2 (by omega)),Bool.and_self],?_⟩
 rw [g1q]
 have hL:Less (a2b b.st.signs) (b.f8J x.l x.l) ((b.reh k l).f8J x.l x.l):=by
  refine ⟨by simp only [PBook.f8J,List.length_mapIdx],fun d z z' hz hz'=>?_⟩
  rw [g1g] at hz hz'
  cases hw:b.st.days[d]? with
  | none=>rw [hw] at hz;cases hz
  | some w =>
   have hdl:=(List.getElem?_eq_some_iff.1 hw).1
   rw [hw] at hz
   have hw':(b.reh k l).st.days[d]?=some w:=hw
   rw [hw'] at hz'
   cases hz;cases hz'
   simp only [PBook.dayOf]
   cases hc:x.l.contains (d:Int) with
   | false=>simp
   | true =>
    obtain ⟨i,e1,e2, -⟩:=f8Y (List.contains_iff_mem.1 hc)
    have h9:¬ (d:Int)=9:=by omega
    have hi3:i<3:=(List.getElem?_eq_some_iff.1 e2).1
    obtain ⟨y,hy⟩:=reh i d e2 h9 (hk i hi3)
    obtain ⟨y',hy',q1,q2,q3⟩:=H i d y e2 h9 hy
    have w1:b.f8T x.l d=y.wants:=by simp only [PBook.f8T,e1,Int.toNat_natCast,hy]
    have w2:(b.reh k l).f8T x.l d=y'.wants:=by simp only [PBook.f8T,e1,Int.toNat_natCast,hy']
    simp only [if_true,w1,w2]
    refine ⟨Int.le_refl _,trivial,by omega,fun _=>trivial⟩
 have hvd:(b.st.dd (b.f8J x.l x.l)).valid=true:=by
  have:=(g0W.1 hsf).1
  exact (a5T this).1
 exact g1D hL (g1w hL (g1E hs' x.l x.l) hvd) hsf
end Go.Pm.St
namespace Go.Pm.St
open Ac
section
variable {Γ:Env} [P04 Γ] [G04 Γ] [GCo Γ] [GPr Γ]
section
variable (b:PBook) (k:SK) (D:List Int) (is:Bool) (P:List Rest)
end
end
end Go.Pm.St
namespace Go.Pm.St
open Ac
theorem g0o (l:List Int) (n:Nat):g0b (l++List.replicate n 9)=g0b l:=by
 simp [g0b,List.filter_append,List.filter_replicate]
theorem g0M (l:List Int) (hl:l.length<=1000):sumW (ones l)=g0b l:=by
 have:∀ n,n<=l.length->sumW (ones (l.take n))=g0b (l.take n):=by
  intro n
  induction n with
  | zero=>intro _;rfl
  | succ n ih =>
   intro hn
   have hx:=take_snoc (List.getElem?_eq_getElem (show n<l.length by omega))
   have h:=g0v (l.take n)
   rw [List.length_take] at h
   rw [hx,f2d,g0p]
   split
   ·exact ih (by omega)
   ·rw [sumW_snoc,ih (by omega),wrap_i64 (by omega) (by omega)]
 have h:=this l.length (Nat.le_refl _)
 rwa [List.take_length] at h
theorem g0x (x:D3):x.holds=g0b x.l:=g0M x.l (by show 3<=1000;omega)
def PBook.told (b:PBook) (x:D3):List Int:=x.l.take b.rehs.length
theorem g0h {b:PBook} (hr:b.rehs.length<=3) (x:D3):(b.told x).length=b.rehs.length:=by
 rw [PBook.told,List.length_take];show min _ 3=_;omega
theorem g0A {b:PBook} (hr:b.rehs.length<=3) {x:D3} (hf:b.for x):x.l=b.told x++List.replicate (3 - b.rehs.length) 9:=by
 apply List.ext_getElem?
 intro i
 have ht:=g0h hr x
 by_cases hi:i<b.rehs.length
 ·rw [List.getElem?_append_left (by omega),PBook.told,List.getElem?_take,if_pos hi]
 ·rw [List.getElem?_append_right (by omega),List.getElem?_replicate,ht]
  by_cases h3:i<3
  ·obtain ⟨a,ha⟩:∃ a,x.l[i]?=some a:=⟨_,List.getElem?_eq_getElem h3⟩
   rw [if_pos (by omega),ha,hf i a ha (by omega)]
  ·rw [if_neg (by omega),List.getElem?_eq_none (show x.l.length<=i from by show 3<=i;omega)]
theorem g0N {b:PBook} (hr:b.rehs.length<=3) {x:D3} (hf:b.for x):g0b (b.told x)=x.holds:=by
 rw [g0x,g0A hr hf,g0o]
section
variable {Γ:Env} [P04 Γ] [G04 Γ] [GCo Γ] [GPr Γ]
end
end Go.Pm.St
namespace Go.Pm.St
open Ac
def B23 (b:PBook) (c:C):List C:=b.cold.c++b.st.c++[.sl b.kl 1 (nums b.sleeps),c]
section
variable (b:PBook) (c d:C)
@[go_sem] theorem g1P:(B23 b c).length=23:=nrfl rfl
@[go_sem] theorem g1R:(B23 b c)[22]?=some c:=nrfl rfl
@[go_sem] theorem g1O:a0R (B23 b c) 0 23=some (B23 b c):=nrfl rfl
@[go_sem] theorem g1S:(B23 b c).map a0r=B23 b (a0r c):=nrfl rfl
@[go_sem] theorem g1M (n:Nat):C.a0G n (B23 b c)=C.a0G n [c]:=nrfl rfl
@[go_sem] theorem g1N:C.a0v (B23 b c)=C.a0v [c]:=nrfl rfl
@[go_sem] theorem g1J:a1H (B23 b c) 22 [d]=B23 b d:=nrfl rfl
@[go_sem] theorem PBook.g1K:a1H b.c 22 [c]=B23 b c:=nrfl rfl
@[go_sem] theorem PBook.g1Q:b.c.set 22 c=B23 b c:=nrfl rfl
@[go_sem] theorem PBook.g1T (z0 z1 z2 z3 z4 z5 z6 z7 z8 z9 z10 z11 z12 z13 z14 z15 z16 z17 z18 z19 z20 z21 z22:C):a1H [z0,z1,z2,z3,z4,z5,z6,z7,z8,z9,z10,z11,z12,z13,z14,z15,z16,z17,z18,z19,z20,z21,z22] 0 b.c=b.c:=by
 rw [e7D _ _ (by rw [PBook.b3N];exact Nat.le_refl 23),PBook.b3N]
 simp only [List.drop_succ_cons,List.drop_zero,List.append_nil]
end
theorem g1H (b:PBook) (k:SK) (l:List Reh):(b.reh k l).c=B23 b (.sl k 3 (l.map Reh.c)):=rfl
def Reh.day (y:Reh):Day:=⟨y.fr,y.til,y.wants⟩
theorem g1F (b:PBook) [hb:b.Fits] (k:SK) (l:List Reh) (h:l.length<=3):(b.reh k l).Fits:=⟨hb.cold,hb.st,hb.sl,by show l.length<=_;omega,hb.nk⟩
theorem g1U {b:PBook} (hv:b.valid=true) (hc:b.can=true):b.plan=match b.best with|some x=>(b.told x,0)|none=>([],4):=by
 have he:b.err true=0:=by simp [PBook.err,hv,hc]
 simp only [PBook.plan,if_pos he];rfl
theorem g1x {b:PBook} (hs:PSane b) {k:SK} {l:List Reh} (hv':(b.reh k l).valid=true) (hl:b.rehs.length<=l.length)
 (H:∀ (i:Nat) (y:Reh),b.rehs[i]?=some y->∃ y',l[i]?=some y'/\y'.fr<=y.fr/\y.til<=y'.til/\y'.wants<=y.wants) {x:D3} (hx:b.best=some x) :
 x∈(b.reh k l).plans/\∃ z,(b.reh k l).best=some z/\x.holds<=z.holds:=by
 have hbs:=g0J hs
 rw [hx] at hbs
 obtain ⟨hp,hf⟩:=((g0s hs).2 x).1 hbs.1
 have hm:x∈(b.reh k l).plans:=((g0s (e6h hv')).2 x).2 ⟨g0X hs hv' (fun i d y _ _ hy=>H i y hy) hp,fun i d hd hi=>hf i d hd (by have:l.length<=i:=hi;omega)⟩
 refine ⟨hm,?_⟩
 have hbs':=g0J (e6h hv')
 cases hz:(b.reh k l).best with
 | none=>rw [hz] at hbs';rw [hbs'] at hm;cases hm
 | some z =>
  rw [hz] at hbs'
  have:=g0i.1 (hbs'.2 x hm).1
  exact ⟨z,rfl,by omega⟩
theorem g1j {b:PBook} (hs:PSane b) {x:D3} (hx:x∈b.plans):(0<=x.d0/\x.d0<=9)/\(0<=x.d1/\x.d1<=9)/\(0<=x.d2/\x.d2<=9):=by
 have h:=((g0j b hs b.rehs.length 0 e6u (by omega) (fun i d hd _=>e8M i d hd)).2 x hx).1.2
 exact ⟨h 0 _ (by omega) (l0 x),h 1 _ (by omega) (l1 x),h 2 _ (by omega) (l2 x)⟩
theorem val_inj {x y:D3} (h1:(0<=x.d0/\x.d0<=9)/\(0<=x.d1/\x.d1<=9)/\(0<=x.d2/\x.d2<=9)) (h2:(0<=y.d0/\y.d0<=9)/\(0<=y.d1/\y.d1<=9)/\(0<=y.d2/\y.d2<=9)) (h:x.val=y.val):x=y:=by
 obtain ⟨a,c,d⟩:=x
 obtain ⟨a',c',d'⟩:=y
 simp only [D3.val] at *
 have e1:a=a':=by omega
 have e2:c=c':=by omega
 have e3:d=d':=by omega
 rw [e1,e2,e3]
end Go.Pm.St
namespace Go.Pm.St
open Ac
theorem g1b {b:PBook} (hs:PSane b) {k:SK} {y:Reh} (hv':(b.reh k (b.rehs++[y])).valid=true) {m:D3} (hm:m∈(b.reh k (b.rehs++[y])).plans) (h9:m.l[b.rehs.length]?=some 9):m∈b.plans:=by
 have hs':=e6h hv'
 obtain ⟨hp,hf⟩:=((g0s hs').2 m).1 hm
 have hl:(b.reh k (b.rehs++[y])).rehs.length=b.rehs.length+1:=by simp
 refine ((g0s hs).2 m).2 ⟨?_,fun i d hd hi=>?_⟩
 ·have hv:((b.reh k (b.rehs++[y])).reh b.kr b.rehs).valid=true:=by
   have hr:=g1s hv'
   exact g1l hv' _ hs.r3 (fun x hx=>hr x (by simp [hx]))
  refine g0X (b:=b.reh k (b.rehs++[y])) hs' hv (fun i d x hd hd9 hx=>?_) hp
  have hx':(b.rehs++[y])[i]?=some x:=hx
  by_cases hi:i<b.rehs.length
  ·rw [List.getElem?_append_left hi] at hx'
   exact ⟨x,hx',Int.le_refl _,Int.le_refl _,Int.le_refl _⟩
  ·have hil:=(List.getElem?_eq_some_iff.1 hx').1
   simp at hil
   have:i=b.rehs.length:=by omega
   subst this
   rw [h9] at hd
   cases hd
   exact absurd rfl hd9
 ·by_cases hi':i=b.rehs.length
  ·subst hi';rw [h9] at hd;cases hd;rfl
  ·exact hf i d hd (by omega)
theorem g1u {b:PBook} (hs:PSane b) {k:SK} {y:Reh} (hv':(b.reh k (b.rehs++[y])).valid=true) :
 match b.best,(b.reh k (b.rehs++[y])).best with
 | none,none=>True
 | none,some m=>m.l[b.rehs.length]?≠some 9
 | some _,none=>False
 | some x,some m=>x.holds<=m.holds/\(m.l[b.rehs.length]?=some 9->m=x):=by
 have hs':=e6h hv'
 have hbs:=g0J hs
 have hbs':=g0J hs'
 cases hx:b.best with
 | none =>
  rw [hx] at hbs
  cases hm:(b.reh k (b.rehs++[y])).best with
  | none=>trivial
  | some m =>
   rw [hm] at hbs'
   intro h9
   have:=g1b hs hv' hbs'.1 h9
   rw [hbs] at this
   cases this
 | some x =>
  rw [hx] at hbs
  obtain ⟨hxm,z,hz,hh⟩:=g1x hs hv' (by simp) (fun i w hw=>⟨w,by rw [List.getElem?_append_left (List.getElem?_eq_some_iff.1 hw).1,hw],Int.le_refl _,Int.le_refl _,Int.le_refl _⟩) hx
  rw [hz] at hbs' ⊢
  refine ⟨hh,fun h9=>?_⟩
  have hzm:=g1b hs hv' hbs'.1 h9
  have q1:=hbs.2 z hzm
  have q2:=hbs'.2 x hxm
  rw [g1a b k _ x z,g1a b k _ z x] at q2
  have:=q1.2 q2.1
  have:=q2.2 q1.1
  exact val_inj (g1j hs hzm) (g1j hs hbs.1) (by omega)
section
variable {Γ:Env} [P04 Γ] [G04 Γ] [GCo Γ] [GPr Γ]
theorem g0Z (b:PBook) [hb:b.Fits] (n0 n1 n2:Int):K Γ (.fn 359) [.agg b.c,.agg [ci n0,ci n1,ci n2]] []=some (vb true,[]):=by
 cases hv:b.valid with
 | false =>
  rw [K_fn P04.f359 _ _ rfl]
  (simp only [go_sem,simprocAttr,g0V,hv];repeat' ((first|refine brY ?_|refine brN ?_|refine brA ?_|refine brD ?_|refine brF ?_);(try simp only [go_sem,simprocAttr,g0V,hv])))
 | true =>
  have hs:=e6h hv
  have hd1:=hs.st.d1;have hd5:=hs.st.d5;have hr3:=hs.r3
  by_cases h3:b.rehs.length=3
  ·have d3:decide ((b.rehs.length:Int)=3)=true:=decide_eq_true (by omega)
   rw [K_fn P04.f359 _ _ rfl]
   (simp only [go_sem,simprocAttr,g0V,hv,d3,List.length_map];repeat' ((first|refine brY ?_|refine brN ?_|refine brA ?_|refine brD ?_|refine brF ?_);(try simp only [go_sem,simprocAttr,g0V,hv,d3,List.length_map])))
  have d3:decide ((b.rehs.length:Int)=3)=false:=decide_eq_false (by omega)
  have hT0:=d0x (Γ:=Γ) n0 b.st.days.length (by omega)
  have ht0:=c1x n0 b.st.days.length (by omega)
  generalize turn n0 b.st.days.length=t0 at *
  have hT1:=d0x (Γ:=Γ) n1 (b.st.days.length - t0) (by omega)
  have ht1:=c1x n1 (b.st.days.length - t0) (by omega)
  generalize turn n1 (b.st.days.length - t0)=t1 at *
  have hT2:=d0x (Γ:=Γ) n2 4 (by omega)
  have ht2:=c1x n2 4 (by omega)
  generalize turn n2 4=t2 at *
  have hw0:IntKind.i64.wrap ((b.st.days.length:Int) - t0)=b.st.days.length - t0:=wrap_i64 (by omega) (by omega)
  have hw1:IntKind.i64.wrap (t0+t1)=t0+t1:=wrap_i64 (by omega) (by omega)
  have hy:b.e8d ⟨t0,t0+t1,t2⟩=true:=g1C.2 ⟨by show 0<=t0/\t0<_;omega,by show 0<=t0+t1/\t0+t1<_;omega,by show t0<=t0+t1;omega,by show 0<=t2/\t2<=3;omega⟩
  have hyc:([ci t0,ci (t0+t1),ci t2]:List C)=(⟨t0,t0+t1,t2⟩:Reh).c:=rfl
  generalize (⟨t0,t0+t1,t2⟩:Reh)=y at *
  have hv':(b.reh .shared (b.rehs++[y])).valid=true:=g1l hv _ (by simp;omega) (fun x hx=>by
   rcases List.mem_append.1 hx with h|h
   ·exact g1s hv x h
   ·simp at h;subst h;exact hy)
  haveI:=g1F b .shared (b.rehs++[y]) (by simp;omega)
  have hP:=f1h (Γ:=Γ) b
  have hP':=f1h (Γ:=Γ) (b.reh .shared (b.rehs++[y]))
  have hS:=d1p 3 b.kr (b.rehs.map Reh.c) (by simp only [List.length_map,room];omega)
  have hO:=d1w 3 .full (b.rehs.map Reh.c) y.c (by simp only [List.length_map,room];omega)
  have hcx:(b.reh .shared (b.rehs++[y])).c=B23 b (.sl .shared 3 (b.rehs.map Reh.c++[y.c])):=by rw [g1H,List.map_append];rfl
  have hr':(b.reh .shared (b.rehs++[y])).rehs.length=b.rehs.length+1:=by simp
  rw [hcx] at hP'
  cases hc:b.can with
  | false =>
   have e:b.plan=([],102):=by simp [PBook.plan,PBook.err,hv,hc]
   have e':(b.reh .shared (b.rehs++[y])).plan=([],102):=by simp [PBook.plan,PBook.err,hv',show (b.reh .shared (b.rehs++[y])).can=false from hc]
   rw [e] at hP
   rw [e'] at hP'
   simp only [nums,List.map_nil] at hP hP'
   rw [K_fn P04.f359 _ _ rfl]
   (simp only [go_sem,simprocAttr,g0V,hv,d3,hT0,hT1,hT2,hw0,hw1,hyc,hS,hO,hP,hP',List.length_map];repeat' ((first|refine brY ?_|refine brN ?_|refine brA ?_|refine brD ?_|refine brF ?_);(try simp only [go_sem,simprocAttr,g0V,hv,d3,hT0,hT1,hT2,hw0,hw1,hyc,hS,hO,hP,hP',List.length_map])))
  | true =>
   have e:=g1U hv hc
   have e':=g1U hv' (show (b.reh .shared (b.rehs++[y])).can=true from hc)
   have hsp:=g1u hs hv'
   cases hx:b.best with
   | none =>
    rw [hx] at hsp e
    simp only at e
    rw [e] at hP
    simp only [nums,List.map_nil] at hP
    cases hm:(b.reh .shared (b.rehs++[y])).best with
    | none =>
     rw [hm] at hsp e'
     simp only at e'
     rw [e'] at hP'
     simp only [nums,List.map_nil] at hP'
     rw [K_fn P04.f359 _ _ rfl]
     (simp only [go_sem,simprocAttr,g0V,hv,d3,hT0,hT1,hT2,hw0,hw1,hyc,hS,hO,hP,hP',List.length_map];repeat' ((first|refine brY ?_|refine brN ?_|refine brA ?_|refine brD ?_|refine brF ?_);(try simp only [go_sem,simprocAttr,g0V,hv,d3,hT0,hT1,hT2,hw0,hw1,hyc,hS,hO,hP,hP',List.length_map])))
    | some m =>
     rw [hm] at hsp e'
     simp only at e' hsp
     rw [e'] at hP'
     have htl:=g0h (b:=b.reh .shared (b.rehs++[y])) (by omega) m
     obtain ⟨a,ha⟩:∃ a,m.l[b.rehs.length]?=some a:=⟨_,List.getElem?_eq_getElem (show b.rehs.length<3 by omega)⟩
     have hn:(nums ((b.reh .shared (b.rehs++[y])).told m))[b.rehs.length]?=some [ci a]:=by
      rw [e7n,PBook.told,List.getElem?_take,if_pos (by omega),ha];rfl
     rw [ha] at hsp
     have d9:decide (a=9)=false:=decide_eq_false (fun h=>hsp (by rw [h]))
     generalize (b.reh .shared (b.rehs++[y])).told m=M at *
     generalize (b.reh .shared (b.rehs++[y])).b2o=kM at *
     have hml:(M.length:Int)=((b.rehs.length+1:Nat):Int):=by omega
     have dp:decide (0<((b.rehs.length+1:Nat):Int))=true:=decide_eq_true (by omega)
     have hmw:IntKind.i64.wrap (((b.rehs.length+1:Nat):Int) - 1)=b.rehs.length:=by rw [wrap_i64 (by omega) (by omega)];omega
     have hbi:decide (0<=(b.rehs.length:Int)/\(b.rehs.length:Int)<((b.rehs.length+1:Nat):Int))=true:=decide_eq_true (by omega)
     rw [K_fn P04.f359 _ _ rfl]
     (simp only [go_sem,simprocAttr,g0V,hv,d3,hT0,hT1,hT2,hw0,hw1,hyc,hS,hO,hP,hP',e4t,hml,dp,hmw,hbi,hn,d9,Int.toNat_natCast,List.length_map];repeat' ((first|refine brY ?_|refine brN ?_|refine brA ?_|refine brD ?_|refine brF ?_);(try simp only [go_sem,simprocAttr,g0V,hv,d3,hT0,hT1,hT2,hw0,hw1,hyc,hS,hO,hP,hP',e4t,hml,dp,hmw,hbi,hn,d9,Int.toNat_natCast,List.length_map])))
   | some x =>
    rw [hx] at hsp e
    simp only at e
    rw [e] at hP
    have hxl:=g0h hr3 x
    cases hm:(b.reh .shared (b.rehs++[y])).best with
    | none=>rw [hm] at hsp;exact absurd hsp id
    | some m =>
     rw [hm] at hsp e'
     simp only at e' hsp
     rw [e'] at hP'
     have hbs:=g0J hs
     rw [hx] at hbs
     have hbs':=g0J (e6h hv')
     rw [hm] at hbs'
     have hxf:=(((g0s hs).2 x).1 hbs.1).2
     have hmf:=(((g0s (e6h hv')).2 m).1 hbs'.1).2
     have htl:=g0h (b:=b.reh .shared (b.rehs++[y])) (by omega) m
     have hh1:=g0D (Γ:=Γ) b.b2o (b.told x) (by omega)
     have hh2:=g0D (Γ:=Γ) (b.reh .shared (b.rehs++[y])).b2o ((b.reh .shared (b.rehs++[y])).told m) (by omega)
     rw [g0N hr3 hxf] at hh1
     rw [g0N (by omega) hmf] at hh2
     obtain ⟨a,ha⟩:∃ a,m.l[b.rehs.length]?=some a:=⟨_,List.getElem?_eq_getElem (show b.rehs.length<3 by omega)⟩
     have hn:(nums ((b.reh .shared (b.rehs++[y])).told m))[b.rehs.length]?=some [ci a]:=by
      rw [e7n,PBook.told,List.getElem?_take,if_pos (by omega),ha];rfl
     rw [ha] at hsp
     have htk:((b.reh .shared (b.rehs++[y])).told m).take b.rehs.length=m.l.take b.rehs.length:=by
      rw [PBook.told,List.take_take,Nat.min_eq_left (by omega)]
     have hE (k k':SK):=f4O (Γ:=Γ) k k' (m.l.take b.rehs.length) (b.told x) (by rw [List.length_take];omega) (by omega)
     have dlt:decide (m.holds<x.holds)=false:=decide_eq_false (by omega)
     generalize (b.reh .shared (b.rehs++[y])).told m=M at *
     generalize (b.reh .shared (b.rehs++[y])).b2o=kM at *
     generalize b.b2o=kX at *
     obtain ⟨k',hsl⟩:=e9Z 1 kM (nums M) b.rehs.length (by rw [e4t];omega)
     rw [f2c,htk] at hsl
     have hml:(M.length:Int)=((b.rehs.length+1:Nat):Int):=by omega
     have hxl':((b.told x).length:Int)=b.rehs.length:=by omega
     have hxw:IntKind.i64.wrap ((b.rehs.length:Int)+1)=((b.rehs.length+1:Nat):Int):=by rw [wrap_i64 (by omega) (by omega)];omega
     have hmw:IntKind.i64.wrap (((b.rehs.length+1:Nat):Int) - 1)=b.rehs.length:=by rw [wrap_i64 (by omega) (by omega)];omega
     have hbi:decide (0<=(b.rehs.length:Int)/\(b.rehs.length:Int)<((b.rehs.length+1:Nat):Int))=true:=decide_eq_true (by omega)
     by_cases h9:a=9
     ·have d9:decide (a=9)=true:=decide_eq_true h9
      have hmx:m=x:=hsp.2 (by rw [h9])
      have het:decide (m.l.take b.rehs.length=b.told x)=true:=decide_eq_true (by rw [hmx];rfl)
      rw [het] at hE
      rw [K_fn P04.f359 _ _ rfl]
      (simp only [go_sem,simprocAttr,g0V,hv,d3,hT0,hT1,hT2,hw0,hw1,hyc,hS,hO,hP,hP',hh1,hh2,dlt,e4t,hml,hxl',hxw,hmw,hbi,hn,d9,hsl,hE,Int.toNat_natCast,List.length_map];repeat' ((first|refine brY ?_|refine brN ?_|refine brA ?_|refine brD ?_|refine brF ?_);(try simp only [go_sem,simprocAttr,g0V,hv,d3,hT0,hT1,hT2,hw0,hw1,hyc,hS,hO,hP,hP',hh1,hh2,dlt,e4t,hml,hxl',hxw,hmw,hbi,hn,d9,hsl,hE,Int.toNat_natCast,List.length_map])))
     ·have d9:decide (a=9)=false:=decide_eq_false h9
      rw [K_fn P04.f359 _ _ rfl]
      (simp only [go_sem,simprocAttr,g0V,hv,d3,hT0,hT1,hT2,hw0,hw1,hyc,hS,hO,hP,hP',hh1,hh2,dlt,e4t,hml,hxl',hxw,hmw,hbi,hn,d9,hsl,hE,Int.toNat_natCast,List.length_map];repeat' ((first|refine brY ?_|refine brN ?_|refine brA ?_|refine brD ?_|refine brF ?_);(try simp only [go_sem,simprocAttr,g0V,hv,d3,hT0,hT1,hT2,hw0,hw1,hyc,hS,hO,hP,hP',hh1,hh2,dlt,e4t,hml,hxl',hxw,hmw,hbi,hn,d9,hsl,hE,Int.toNat_natCast,List.length_map])))
end
end Go.Pm.St
