/- The statement PracticeSafe, part 8. -/
import Derived.Test.YtdockaglpfejhaaGreatDoorPracticeSafeL7
set_option linter.all false
set_option maxRecDepth 100000
namespace Go.Pm.St
theorem f9d {l:List Int} {n:Int} {i:Nat} (h:l[i]?=some n) (h2:n ∉ l.take i):d2R l n=i:=by
 unfold d2R
 cases hf:a0z (fun _ x=>decide (x=n)) 0 l with
 | none =>
  have:=a2L.1 hf i n h
  simp at this
 | some q =>
  obtain ⟨j,x⟩:=q
  obtain ⟨-,a2,a3,a4⟩:=a3F hf
  simp only [Nat.sub_zero,Nat.zero_add,decide_eq_true_eq] at a2 a3 a4
  subst a3
  have h3:¬ i<j:=fun hij=>by simpa using a4 i x hij h
  have h4:¬ j<i:=fun hji=>h2 (List.mem_iff_getElem?.2 ⟨j,by rw [List.getElem?_take];simp [hji,a2]⟩)
  show ((j:Nat):Int)=i
  omega
theorem f8Y {l:List Int} {n:Int} (h:n∈l):∃ i:Nat,d2R l n=i/\l[i]?=some n/\n ∉ l.take i:=by
 unfold d2R
 cases hf:a0z (fun _ x=>decide (x=n)) 0 l with
 | none =>
  obtain ⟨i,hi⟩:=List.mem_iff_getElem?.1 h
  have:=a2L.1 hf i n hi
  simp at this
 | some q =>
  obtain ⟨j,x⟩:=q
  obtain ⟨-,a2,a3,a4⟩:=a3F hf
  simp only [Nat.sub_zero,Nat.zero_add,decide_eq_true_eq] at a2 a3 a4
  subst a3
  refine ⟨j,rfl,a2,fun hm=>?_⟩
  obtain ⟨i,hi⟩:=List.mem_iff_getElem?.1 hm
  rw [List.getElem?_take] at hi
  split at hi
  ·rename_i hij;simpa using a4 i x hij hi
  ·cases hi
def f8K (l:List Int):List Int:=l.filter fun n=>decide (n≠9)
theorem f9a {l:List Int} {n:Int} (h:n≠9):(f8K l).contains n=l.contains n:=by
 rw [Bool.eq_iff_iff,List.contains_iff_mem,List.contains_iff_mem,f8K,List.mem_filter]
 simp [h]
theorem f9h (l:List Int) (n:Int):f8K (l++[n])=if n=9 then f8K l else f8K l++[n]:=by
 by_cases h:n=9<;>simp [f8K,List.filter_append,h]
def PBook.layN (b:PBook) (x:D3):Nat->Option (List Int × List Day)
 | 0=>some ([],b.st.days)
 | i+1=>(b.layN x i).bind fun s=>match x.l[i]? with
  | some day=>b.lay1 s i day
  | none=>some s
theorem f9J (b:PBook) (x:D3):b.lays x=b.layN x 3:=rfl
def PBook.okAt (b:PBook) (x:D3) (i:Nat):Bool:=match x.l[i]? with
 | some d=>decide (d=9)||((match b.rehs[i]? with|some y=>within d (max b.e7T y.fr) y.til|none=>false)&&(match b.st.days[d.toNat]? with|some z=>decide (z.plain<=1)|none=>false)&&!(x.l.take i).contains d)
 | none=>true
def PBook.f8W (b:PBook) (x:D3):Bool:=b.okAt x 0&&b.okAt x 1&&b.okAt x 2
def PBook.f8T (b:PBook) (l:List Int) (d:Int):Int:=match b.rehs[(d2R l d).toNat]? with|some y=>y.wants|none=>0
def PBook.dayOf (b:PBook) (l m:List Int) (d:Nat) (z:Day):Day:=if m.contains (d:Int) then ⟨z.plain+1,z.full,max z.needs (b.f8T l d)⟩ else z
theorem f9m (b:PBook) (hs:PSane b) (x:D3):∀ i,i<=3 →
 (match b.layN x i with
 | some s=>(∀ j,j<i->b.okAt x j=true)/\s.1=f8K (x.l.take i)/\s.2.length=b.st.days.length/\∀ (d:Nat) z0,b.st.days[d]?=some z0->s.2[d]?=some (b.dayOf x.l (f8K (x.l.take i)) d z0)
 | none=>∃ j,j<i/\b.okAt x j=false)
 | 0,_=>by
  refine ⟨fun j hj=>by omega,rfl,rfl,fun d z0 hz=>?_⟩
  simp [PBook.dayOf,f8K,hz]
 | i+1,hi=>by
  have ih:=f9m b hs x i (by omega)
  simp only [PBook.layN]
  cases hl:b.layN x i with
  | none =>
   rw [hl] at ih
   obtain ⟨j,hj,hf⟩:=ih
   exact ⟨j,by omega,hf⟩
  | some s =>
   rw [hl] at ih
   obtain ⟨h1,h2,h3,h4⟩:=ih
   obtain ⟨day,hday⟩:∃ day,x.l[i]?=some day:=⟨_,List.getElem?_eq_getElem (show i<3 by omega)⟩
   have htk:=take_snoc hday
   simp only [Option.bind_some,hday]
   have hok:∀ (u:Bool),b.okAt x i=u->u=true->∀ j,j<i+1->b.okAt x j=true:=fun u hu ht j hj=>by
    by_cases hji:j=i
    ·subst hji;rw [hu,ht]
    ·exact h1 j (by omega)
   by_cases h9:day=9
   ·have e:b.lay1 s i day=some s:=by simp only [PBook.lay1,if_pos h9]
    have e2:b.okAt x i=true:=by simp only [PBook.okAt,hday,decide_eq_true h9,Bool.true_or]
    rw [e,htk,f9h,if_pos h9]
    exact ⟨hok _ e2 rfl,h2,h3,h4⟩
   ·have d9:=decide_eq_false h9
    cases hy:b.rehs[i]? with
    | none =>
     have e:b.lay1 s i day=none:=by simp only [PBook.lay1,if_neg h9,hy]
     rw [e]
     exact ⟨i,by omega,by simp only [PBook.okAt,hday,d9,hy,Bool.false_or,Bool.false_and]⟩
    | some y =>
     cases hw:within day (max b.e7T y.fr) y.til with
     | false =>
      have e:b.lay1 s i day=none:=by
       simp only [PBook.lay1,if_neg h9,hy]
       split
       ·rename_i e1 _ _;cases e1;rw [hw];rfl
       ·rfl
      rw [e]
      exact ⟨i,by omega,by simp only [PBook.okAt,hday,d9,hy,hw,Bool.false_or,Bool.false_and]⟩
     | true =>
      have hr:=hs.rh y (List.mem_of_getElem? hy)
      have hw2:=within_iff.1 hw
      obtain ⟨d,rfl⟩:∃ d:Nat,day=d:=⟨day.toNat,by omega⟩
      have hd:d<b.st.days.length:=by omega
      obtain ⟨z0,hz0⟩:∃ z0,b.st.days[d]?=some z0:=⟨_,List.getElem?_eq_getElem hd⟩
      have hz:=h4 d z0 hz0
      have hct:s.1.contains (d:Int)=(x.l.take i).contains (d:Int):=by rw [h2,f9a h9]
      have e:b.lay1 s i d=if decide (z0.plain<=1)&&!(x.l.take i).contains (d:Int) then some (s.1++[(d:Int)],s.2.set d ⟨(b.dayOf x.l (f8K (x.l.take i)) d z0).plain+1,(b.dayOf x.l (f8K (x.l.take i)) d z0).full,max (b.dayOf x.l (f8K (x.l.take i)) d z0).needs y.wants⟩) else none:=by
       simp only [PBook.lay1,if_neg h9,Int.toNat_natCast,hy,hz,hz0,hw,hct,Bool.true_and]
      have eok:b.okAt x i=(decide (z0.plain<=1)&&!(x.l.take i).contains (d:Int)):=by
       simp only [PBook.okAt,hday,d9,hy,hw,Int.toNat_natCast,hz0,Bool.false_or,Bool.true_and]
      rw [e]
      cases hc:(decide (z0.plain<=1)&&!(x.l.take i).contains (d:Int)) with
      | false =>
       rw [hc] at eok
       simp only [Bool.false_eq_true,if_false]
       exact ⟨i,by omega,eok⟩
      | true =>
       rw [hc] at eok
       simp only [if_true]
       simp only [Bool.and_eq_true,Bool.not_eq_true'] at hc
       have hnt:=hc.2
       have hfirst:d2R x.l (d:Int)=i:=f9d hday (fun hm=>by rw [← List.contains_iff_mem,hnt] at hm;cases hm)
       have hwants:b.f8T x.l (d:Int)=y.wants:=by simp only [PBook.f8T,hfirst,Int.toNat_natCast,hy]
       have hd0:b.dayOf x.l (f8K (x.l.take i)) d z0=z0:=by
        simp only [PBook.dayOf,f9a h9,hnt,Bool.false_eq_true,if_false]
       rw [htk,f9h,if_neg h9]
       refine ⟨hok _ eok rfl,by rw [h2],by rw [List.length_set];exact h3,fun e w0 hw0=>?_⟩
       simp only [List.getElem?_set]
       by_cases hde:d=e
       ·subst hde
        rw [hz0] at hw0
        cases hw0
        rw [if_pos rfl,if_pos (by rw [h3];exact hd),hd0]
        simp [PBook.dayOf,hwants]
       ·have hne:¬ (e:Int)=d:=by omega
        rw [if_neg hde,h4 e w0 hw0]
        simp [PBook.dayOf,List.contains_append,hne]
def PBook.f8J (b:PBook) (l m:List Int):List Day:=b.st.days.mapIdx fun d z=>b.dayOf l m d z
theorem f9I (b:PBook) (hs:PSane b) (x:D3):b.a4k x=(b.f8W x&&((b.held (b.f8J x.l (f8K x.l))).safe (b.e5W (e7d (f8K x.l)))).1):=by
 have h:=f9m b hs x 3 (Nat.le_refl 3)
 unfold PBook.a4k
 rw [f9J]
 cases hl:b.layN x 3 with
 | none =>
  rw [hl] at h
  obtain ⟨j,hj,hf⟩:=h
  have:b.f8W x=false:=by
   have:j=0\/j=1\/j=2:=by omega
   rcases this with rfl|rfl|rfl<;>simp [PBook.f8W,hf]
  rw [this];rfl
 | some s =>
  rw [hl] at h
  obtain ⟨h1,h2,h3,h4⟩:=h
  have hx3:x.l.take 3=x.l:=rfl
  rw [hx3] at h2 h4
  have hall:b.f8W x=true:=by simp [PBook.f8W,h1 0 (by omega),h1 1 (by omega),h1 2 (by omega)]
  have hds:s.2=b.f8J x.l (f8K x.l):=by
   apply List.ext_getElem?
   intro d
   rw [PBook.f8J,List.getElem?_mapIdx]
   by_cases hd:d<b.st.days.length
   ·rw [List.getElem?_eq_getElem hd,h4 d _ (List.getElem?_eq_getElem hd)];rfl
   ·rw [List.getElem?_eq_none (by omega),List.getElem?_eq_none (by omega)];rfl
  simp only [hall,Bool.true_and,h2,hds]
/-! ### Sorted -/
theorem f9i (f:Nat->Bool) (n:Nat) (h:∀ j,n<=j->f j=false):∀ k,e6D f (n+k)=e6D f n
 | 0=>rfl
 | k+1=>by
  have:=h (n+k) (by omega)
  rw [← Nat.add_assoc]
  simp only [e6D,this,Bool.false_eq_true,if_false,f9i f n h k]
def f9z (a b c:Nat):Bool:=(a == b||a == c||b == c)||e7d [(a:Int),(b:Int),(c:Int)] == e6D (fun j=>[(a:Int),(b:Int),(c:Int)].contains (j:Int)) 5
def f9y (a b:Nat):Bool:=a == b||e7d [(a:Int),(b:Int)] == e6D (fun j=>[(a:Int),(b:Int)].contains (j:Int)) 5
def f9x (a:Nat):Bool:=e7d [(a:Int)] == e6D (fun j=>[(a:Int)].contains (j:Int)) 5
theorem f9t:((List.range 5).all fun a=>(List.range 5).all fun b=>(List.range 5).all fun c=>f9z a b c)=true:=by decide +kernel
theorem f9s:((List.range 5).all fun a=>(List.range 5).all fun b=>f9y a b)=true:=by decide +kernel
theorem f9r:((List.range 5).all fun a=>f9x a)=true:=by decide +kernel
theorem f9K (l:List Int) (n:Nat) (hn:n<=5) (hl:l.length<=3) (hx:∀ x∈l,0<=x/\x<n) (hd:l.Nodup):e7d l=e6D (fun j=>l.contains (j:Int)) n:=by
 have nat:∀ x∈l,∃ f:Nat,x=f/\f<5:=fun x h=>⟨x.toNat,by have:=hx x h;omega,by have:=hx x h;omega⟩
 have hm:e6D (fun j=>l.contains (j:Int)) 5=e6D (fun j=>l.contains (j:Int)) n:=by
  have:=f9i (fun j=>l.contains (j:Int)) n (fun j hj=>by
   rw [Bool.eq_false_iff]
   intro h
   have:=hx _ (List.contains_iff_mem.1 h)
   omega) (5 - n)
  rwa [show n+(5 - n)=5 by omega] at this
 rw [← hm]
 clear hm
 match l,hl,hd,nat with
 | [],_,_,_=>rfl
 | [a],_,_,nat =>
  obtain ⟨a',rfl,ha⟩:=nat a (by simp)
  have:=List.all_eq_true.1 f9r a' (List.mem_range.2 ha)
  simpa [f9x] using this
 | [a,c],_,hd,nat =>
  obtain ⟨a',rfl,ha⟩:=nat a (by simp)
  obtain ⟨c',rfl,hc⟩:=nat c (by simp)
  have:=List.all_eq_true.1 (List.all_eq_true.1 f9s a' (List.mem_range.2 ha)) c' (List.mem_range.2 hc)
  simp only [List.nodup_cons,List.mem_cons,List.not_mem_nil,or_false] at hd
  simp only [f9y,Bool.or_eq_true,beq_iff_eq] at this
  exact this.resolve_left (fun e=>hd.1 (by rw [e]))
 | [a,c,e],_,hd,nat =>
  obtain ⟨a',rfl,ha⟩:=nat a (by simp)
  obtain ⟨c',rfl,hc⟩:=nat c (by simp)
  obtain ⟨e',rfl,he⟩:=nat e (by simp)
  have:=List.all_eq_true.1 (List.all_eq_true.1 (List.all_eq_true.1 f9t a' (List.mem_range.2 ha)) c' (List.mem_range.2 hc)) e' (List.mem_range.2 he)
  simp only [List.nodup_cons,List.mem_cons,List.not_mem_nil,or_false,not_or] at hd
  simp only [f9z,Bool.or_eq_true,beq_iff_eq] at this
  rcases this with ((h|h)|h)|h
  ·exact absurd (by rw [h]) hd.1.1
  ·exact absurd (by rw [h]) hd.1.2
  ·exact absurd (by rw [h]) hd.2.1
  ·exact h
theorem f9P {b:PBook} (hs:PSane b) {x:D3} (h:b.f8W x=true):(∀ d∈f8K x.l,0<=d/\d<b.st.days.length)/\(f8K x.l).Nodup/\(f8K x.l).length<=3:=by
 simp only [PBook.f8W,Bool.and_eq_true] at h
 obtain ⟨⟨k0,k1⟩,k2⟩:=h
 have key:∀ (i:Nat) (d:Int),x.l[i]?=some d->b.okAt x i=true->d=9\/((0<=d/\d<b.st.days.length)/\d ∉ x.l.take i):=by
  intro i d hd hk
  simp only [PBook.okAt,hd,Bool.or_eq_true,decide_eq_true_eq,Bool.and_eq_true,Bool.not_eq_true'] at hk
  rcases hk with hk|⟨⟨h1,h2⟩,h3⟩
  ·exact .inl hk
  ·right
   cases hy:b.rehs[i]? with
   | none=>rw [hy] at h1;cases h1
   | some y =>
    rw [hy] at h1
    have hr:=hs.rh y (List.mem_of_getElem? hy)
    have:=within_iff.1 h1
    exact ⟨by omega,fun hm=>by rw [← List.contains_iff_mem,h3] at hm;cases hm⟩
 have q0:=key 0 x.d0 rfl k0
 have q1:=key 1 x.d1 rfl k1
 have q2:=key 2 x.d2 rfl k2
 refine ⟨fun d hd=>?_,?_,Nat.le_trans (List.length_filter_le _ _) (Nat.le_refl 3)⟩
 ·simp only [f8K,List.mem_filter,decide_eq_true_eq] at hd
  obtain ⟨hm,h9⟩:=hd
  have:d=x.d0\/d=x.d1\/d=x.d2:=by simpa [D3.l] using hm
  rcases this with rfl|rfl|rfl
  ·exact (q0.resolve_left h9).1
  ·exact (q1.resolve_left h9).1
  ·exact (q2.resolve_left h9).1
 ·have t1:x.l.take 1=[x.d0]:=rfl
  have t2:x.l.take 2=[x.d0,x.d1]:=rfl
  rw [t1] at q1
  rw [t2] at q2
  simp only [List.mem_cons,List.not_mem_nil,or_false,not_or] at q1 q2
  have e:x.l=[x.d0,x.d1,x.d2]:=rfl
  rw [e,f8K]
  by_cases a0:x.d0=9<;>by_cases a1:x.d1=9<;>by_cases a2:x.d2=9<;>simp [List.filter_cons,a0,a1,a2]
  ·exact fun h=>(q2.resolve_left a2).2.2 h.symm
  ·exact fun h=>(q2.resolve_left a2).2.1 h.symm
  ·exact fun h=>(q1.resolve_left a1).2 h.symm
  ·exact ⟨⟨fun h=>(q1.resolve_left a1).2 h.symm,fun h=>(q2.resolve_left a2).2.1 h.symm⟩,fun h=>(q2.resolve_left a2).2.2 h.symm⟩
theorem f9w (b:PBook) (hs:PSane b) (x:D3):b.a4k x=(b.f8W x&&((b.held (b.f8J x.l x.l)).safe (b.e5W (e6D (fun j=>x.l.contains (j:Int)) b.st.days.length))).1):=by
 rw [f9I b hs]
 cases h:b.f8W x with
 | false=>simp only [Bool.false_and]
 | true =>
  obtain ⟨h1,h2,h3⟩:=f9P hs h
  have hd5:=hs.st.d5
  have e1:e6D (fun j=>(f8K x.l).contains (j:Int)) b.st.days.length=e6D (fun j=>x.l.contains (j:Int)) b.st.days.length:=by
   have:∀ n,n<=5->e6D (fun j=>(f8K x.l).contains (j:Int)) n=e6D (fun j=>x.l.contains (j:Int)) n:=by
    intro n
    induction n with
    | zero=>intro _;rfl
    | succ n ih=>intro hn;simp only [e6D,ih (by omega),f9a (show ¬ (n:Int)=9 by omega)]
   exact this _ hd5
  have e2:b.f8J x.l (f8K x.l)=b.f8J x.l x.l:=by
   apply List.ext_getElem?
   intro d
   simp only [PBook.f8J,List.getElem?_mapIdx]
   cases hz:b.st.days[d]? with
   | none=>rfl
   | some z =>
    have:=(List.getElem?_eq_some_iff.1 hz).1
    simp only [Option.map_some,PBook.dayOf,f9a (show ¬ (d:Int)=9 by omega)]
  rw [f9K _ _ hd5 h3 h1 h2,e1,e2]
end Go.Pm.St
namespace Go.Pm.St
open Ac
theorem f9U {t:List (Nat × V)} {i:Nat} (ht:get t i=.sc (.ptr 1 0)) (x0:Obj) (rest:List Obj) (b:Book) (l:List Day) (n:Nat) (hn:l.length=n) (hl:n<=100) :
 a3G i ⟨t,x0::.var (B10 b (.msl 2 0 n 0 3))::.var (flD l)::rest⟩=some ⟨t,x0::.var (B10 b (.sl .shared 3 (l.map Day.c)))::.dead::rest⟩:=by
 subst hn
 have hm (m:Nat) (hm:390<=m):a3p m (.msl 2 0 l.length 0 3) (x0::.var (B10 b (.msl 2 0 l.length 0 3))::.var (flD l)::rest)=some (.sl .shared 3 (l.map Day.c),x0::.var (B10 b (.msl 2 0 l.length 0 3))::.dead::rest):=by
  obtain ⟨k,rfl⟩:∃ k,m=k+1:=⟨m - 1,by omega⟩
  exact b2J rfl (f1K l) (f0q l) (by rw [f3p];omega) (f0r l) (e9w l)
 have hc:a2Z 400 (B10 b (.msl 2 0 l.length 0 3)) (x0::.var (B10 b (.msl 2 0 l.length 0 3))::.var (flD l)::rest)=some (B10 b (.sl .shared 3 (l.map Day.c)),x0::.var (B10 b (.msl 2 0 l.length 0 3))::.dead::rest):=by
  iterate 7 refine e5R (h':=x0::.var (B10 b (.msl 2 0 l.length 0 3))::.var (flD l)::rest) rfl ?_
  refine e5R (hm 392 (by omega)) ?_
  rfl
 simp only [a3G,ht,List.getElem?_cons_succ,List.getElem?_cons_zero,hc]
 rfl
def PBook.f8N (b:PBook) (l:List Int) (j:Nat):List Day:=b.st.days.mapIdx fun d z=>if d<j then b.dayOf l l d z else z
theorem f9e (b:PBook) (l:List Int) (j:Nat):(b.f8N l j).length=b.st.days.length:=by simp [PBook.f8N]
theorem f8S (b:PBook) (l:List Int) (j d:Nat):(b.f8N l j)[d]?=(b.st.days[d]?).map fun z=>if d<j then b.dayOf l l d z else z:=by simp [PBook.f8N,List.getElem?_mapIdx]
theorem f9u (b:PBook) (l:List Int):b.f8N l 0=b.st.days:=by
 apply List.ext_getElem?
 intro d
 rw [f8S]
 cases b.st.days[d]?<;>simp
theorem f9A (b:PBook) (l:List Int):b.f8N l b.st.days.length=b.f8J l l:=by
 apply List.ext_getElem?
 intro d
 rw [f8S,PBook.f8J,List.getElem?_mapIdx]
 cases h:b.st.days[d]? with
 | none=>rfl
 | some z =>
  have:=(List.getElem?_eq_some_iff.1 h).1
  simp [this]
theorem f9F (b:PBook) (l:List Int) (j:Nat) (h:l.contains (j:Int)=false):b.f8N l (j+1)=b.f8N l j:=by
 apply List.ext_getElem?
 intro d
 rw [f8S,f8S]
 cases hz:b.st.days[d]? with
 | none=>rfl
 | some z =>
  simp only [Option.map_some]
  by_cases hd:d=j
  ·subst hd
   rw [if_pos (by omega),if_neg (by omega)]
   simp only [PBook.dayOf,h,Bool.false_eq_true,if_false]
  ·by_cases h1:d<j
   ·rw [if_pos (by omega),if_pos h1]
   ·rw [if_neg (by omega),if_neg h1]
theorem f9B (b:PBook) (l:List Int) (j:Nat) (z:Day) (hz:b.st.days[j]?=some z) (h:l.contains (j:Int)=true):b.f8N l (j+1)=(b.f8N l j).set j ⟨z.plain+1,z.full,max z.needs (b.f8T l j)⟩:=by
 apply List.ext_getElem?
 intro d
 have hj:=(List.getElem?_eq_some_iff.1 hz).1
 rw [List.getElem?_set,f9e,f8S,f8S]
 by_cases hd:j=d
 ·subst hd
  rw [if_pos rfl,if_pos hj,hz]
  simp only [Option.map_some,if_pos (Nat.lt_succ_self j),PBook.dayOf,h,if_true]
 ·rw [if_neg hd]
  cases b.st.days[d]? with
  | none=>rfl
  | some w =>
   simp only [Option.map_some]
   by_cases h1:d<j
   ·rw [if_pos (by omega),if_pos h1]
   ·rw [if_neg (by omega),if_neg h1]
def PBook.f9b (b:PBook) (l:List Int) (d:Nat):Bool:=b.st.signs.all (fun y=>decide (y.day<d))&&(l.drop ((d2R l d).toNat+1)).all (fun x=>decide (x≠d))&&(match b.st.days[d]? with|some z=>decide (z.plain+1<=2)|none=>true)
def PBook.f8L (b:PBook) (l:List Int):Nat->Bool
 | 0=>true
 | j+1=>if l.contains (j:Int) then b.f8L l j&&b.f9b l j else b.f8L l j
theorem f9o (b:PBook) (d:Int) (h0:0<=d):∀ j,j<=b.st.signs.length->(b.e9G j<=d<->(b.st.signs.take j).all (fun y=>decide (y.day<d))=true)
 | 0,_=>by simp [PBook.e9G,h0]
 | j+1,h=>by
  have hy:b.st.signs[j]?=some b.st.signs[j]:=List.getElem?_eq_getElem (by omega)
  have ih:=f9o b d h0 j (by omega)
  rw [f1x b hy,take_snoc hy,List.all_append,Bool.and_eq_true, ← ih]
  simp only [List.all_cons,List.all_nil,Bool.and_true,decide_eq_true_eq]
  omega
theorem f9n (b:PBook) (d:Int) (h0:0<=d):b.e7T<=d<->b.st.signs.all (fun y=>decide (y.day<d))=true:=by
 have:=f9o b d h0 _ (Nat.le_refl _)
 rwa [List.take_length] at this
theorem f9g (b:PBook) (l:List Int):∀ n,b.f8L l n=true<->∀ d,d<n->l.contains (d:Int)=true->b.f9b l d=true
 | 0=>by simp [PBook.f8L]
 | n+1=>by
  have ih:=f9g b l n
  simp only [PBook.f8L]
  constructor
  ·intro h d hd hc
   by_cases hdn:d=n
   ·subst hdn
    rw [if_pos hc,Bool.and_eq_true] at h
    exact h.2
   ·split at h
    ·rw [Bool.and_eq_true] at h;exact ih.1 h.1 d (by omega) hc
    ·exact ih.1 h d (by omega) hc
  ·intro h
   have h1:=ih.2 fun d hd hc=>h d (by omega) hc
   split
   ·rename_i hc;rw [h1,h n (by omega) hc];rfl
   ·exact h1
theorem f8Z (b:PBook) (l:List Int) (hl:l.length=b.rehs.length) (h3:b.rehs.length<=3):(b.e7j l).l=l++List.replicate (3 - l.length) 9:=by
 simp only [PBook.e7j,if_pos hl]
 match l,hl with
 | [],_=>rfl
 | [x],_=>rfl
 | [x,y],_=>rfl
 | [x,y,z],_=>rfl
 | _::_::_::_::_,h=>exact absurd h (by simp only [List.length_cons];omega)
theorem f9l (b:PBook) (l:List Int) (hl:l.length=b.rehs.length) (h3:b.rehs.length<=3) {d:Int} (h9:d≠9):(b.e7j l).l.contains d=l.contains d:=by
 rw [f8Z b l hl h3,Bool.eq_iff_iff,List.contains_iff_mem,List.contains_iff_mem,List.mem_append,List.mem_replicate]
 constructor
 ·rintro (h|⟨_,h⟩)
  ·exact h
  ·exact absurd h h9
 ·exact .inl
theorem f9p (b:PBook) (l:List Int) (hl:l.length=b.rehs.length) (h3:b.rehs.length<=3) (i:Nat) (hi:i<l.length):(b.e7j l).l[i]?=l[i]?:=by
 rw [f8Z b l hl h3,List.getElem?_append_left hi]
theorem f9E (b:PBook) (l:List Int) (hl:l.length=b.rehs.length) (h3:b.rehs.length<=3) {d:Int} (hd:d∈l):d2R (b.e7j l).l d=d2R l d:=by
 obtain ⟨i,h1,h2,h4⟩:=f8Y hd
 have hi:=(List.getElem?_eq_some_iff.1 h2).1
 rw [h1]
 refine f9d (by rw [f9p b l hl h3 i hi,h2]) ?_
 rw [f8Z b l hl h3,List.take_append_of_le_length (by omega)]
 exact h4
theorem f9D (b:PBook) (l:List Int) (hl:l.length=b.rehs.length) (h3:b.rehs.length<=3) {d:Int} (hd:d∈l):b.f8T (b.e7j l).l d=b.f8T l d:=by
 simp only [PBook.f8T,f9E b l hl h3 hd]
def PBook.f9k (b:PBook) (l:List Int):Prop:=l.length=b.rehs.length/\∀ (i:Nat) (d:Int) (y:Reh),l[i]?=some d->b.rehs[i]?=some y->d=9\/(y.fr<=d/\d<=y.til)
theorem f9L {b:PBook} (hs:PSane b) (bits:List Int):b.f9k (b.drawn bits):=by
 refine ⟨f9H b bits,fun i d y hd hy=>?_⟩
 rw [f9G b bits hy] at hd
 cases hd
 obtain ⟨r1,r2,r3,r4⟩:=hs.rh y (List.mem_of_getElem? hy)
 have ht:=c1x (d8d bits i) (y.til - y.fr+2) (by omega)
 simp only [Reh.draw]
 split
 ·exact .inl rfl
 ·right;omega
theorem f9O {b:PBook} (hs:PSane b) {l:List Int} (hl:b.f9k l):b.f8W (b.e7j l)=b.f8L l b.st.days.length:=by
 obtain ⟨hlen,hdr⟩:=hl
 have hr3:=hs.r3
 have hd5:=hs.st.d5
 have key:∀ i,i<3->(b.okAt (b.e7j l) i=true<->∀ d,l[i]?=some d->d=9\/(b.e7T<=d/\(∀ z,b.st.days[d.toNat]?=some z->z.plain<=1)/\d ∉ l.take i)):=by
  intro i hi
  by_cases hil:i<l.length
  ·obtain ⟨d,hd⟩:∃ d,l[i]?=some d:=⟨_,List.getElem?_eq_getElem hil⟩
   obtain ⟨y,hy⟩:∃ y,b.rehs[i]?=some y:=⟨_,List.getElem?_eq_getElem (by omega)⟩
   have hx:(b.e7j l).l[i]?=some d:=by rw [f9p b l hlen hr3 i hil,hd]
   have htk:(b.e7j l).l.take i=l.take i:=by rw [f8Z b l hlen hr3,List.take_append_of_le_length (by omega)]
   have hy9:=hdr i d y hd hy
   obtain ⟨r1,r2,r3,r4⟩:=hs.rh y (List.mem_of_getElem? hy)
   simp only [PBook.okAt,hx,hy,htk,Bool.or_eq_true,decide_eq_true_eq,Bool.and_eq_true,Bool.not_eq_true',hd]
   constructor
   ·intro h d' hd'
    cases hd'
    rcases h with h|⟨⟨h1,h2⟩,h3⟩
    ·exact .inl h
    ·refine .inr ⟨by have:=within_iff.1 h1;omega,fun z hz=>?_,fun hm=>by rw [← List.contains_iff_mem,h3] at hm;cases hm⟩
     rw [hz] at h2;exact of_decide_eq_true h2
   ·intro h
    rcases h d rfl with h|⟨h1,h2,h3⟩
    ·exact .inl h
    ·rcases hy9 with h9|hw
     ·exact .inl h9
     ·refine .inr ⟨⟨within_iff.2 (by omega),?_⟩,?_⟩
      ·cases hz:b.st.days[d.toNat]? with
       | none=>rw [List.getElem?_eq_none_iff] at hz;omega
       | some z=>exact decide_eq_true (h2 z hz)
      ·cases hc:(l.take i).contains d with
       | false=>rfl
       | true=>exact absurd (List.contains_iff_mem.1 hc) h3
  ·have h9:(b.e7j l).l[i]?=some 9:=by
    rw [f8Z b l hlen hr3,List.getElem?_append_right (by omega),List.getElem?_replicate]
    rw [if_pos (by omega)]
   have hn:l[i]?=none:=List.getElem?_eq_none (by omega)
   simp [PBook.okAt,h9,hn]
 rw [Bool.eq_iff_iff,f9g]
 simp only [PBook.f8W,Bool.and_eq_true]
 rw [key 0 (by omega),key 1 (by omega),key 2 (by omega)]
 have plus:∀ d:Nat,(∀ z,b.st.days[d]?=some z->z.plain<=1)<->(match b.st.days[d]? with|some z=>decide (z.plain+1<=2)|none=>true)=true:=fun d=>by
  cases h:b.st.days[d]? with
  | none=>simp
  | some z=>simp;omega
 constructor
 ·rintro ⟨⟨k0,k1⟩,k2⟩ d hd hc
  have kall:∀ i x,l[i]?=some x->x=9\/(b.e7T<=x/\(∀ z,b.st.days[x.toNat]?=some z->z.plain<=1)/\x ∉ l.take i):=fun i x hx=>by
   have:=(List.getElem?_eq_some_iff.1 hx).1
   have hi:i=0\/i=1\/i=2:=by omega
   rcases hi with rfl|rfl|rfl
   ·exact k0 x hx
   ·exact k1 x hx
   ·exact k2 x hx
  obtain ⟨i,h1,h2,h3⟩:=f8Y (List.contains_iff_mem.1 hc)
  have h9:¬ (d:Int)=9:=by omega
  obtain ⟨q1,q2,q3⟩:=(kall i _ h2).resolve_left h9
  rw [Int.toNat_natCast] at q2
  simp only [PBook.f9b,Bool.and_eq_true,h1,Int.toNat_natCast]
  refine ⟨⟨(f9n b d (by omega)).1 q1,?_⟩,(plus d).1 q2⟩
  rw [List.all_eq_true]
  intro x hx
  rw [decide_eq_true_eq]
  rintro rfl
  obtain ⟨j,hj⟩:=List.mem_iff_getElem?.1 hx
  rw [List.getElem?_drop] at hj
  have:=((kall _ _ hj).resolve_left h9).2.2
  exact this (List.mem_iff_getElem?.2 ⟨i,by rw [List.getElem?_take,if_pos (by omega),h2]⟩)
 ·intro h
  have main:∀ (i:Nat) (d:Int),l[i]?=some d->d=9\/(b.e7T<=d/\(∀ z,b.st.days[d.toNat]?=some z->z.plain<=1)/\d ∉ l.take i):=by
   intro i d hd
   have hil:=(List.getElem?_eq_some_iff.1 hd).1
   obtain ⟨y,hy⟩:∃ y,b.rehs[i]?=some y:=⟨_,List.getElem?_eq_getElem (by omega)⟩
   obtain ⟨r1,r2,r3,r4⟩:=hs.rh y (List.mem_of_getElem? hy)
   rcases hdr i d y hd hy with h9|hw
   ·exact .inl h9
   ·right
    obtain ⟨e,rfl⟩:∃ e:Nat,d=e:=⟨d.toNat,by omega⟩
    have hm:(e:Int)∈l:=List.mem_of_getElem? hd
    have hf:=h e (by omega) (List.contains_iff_mem.2 hm)
    obtain ⟨k,h1,h2,h3⟩:=f8Y hm
    simp only [PBook.f9b,Bool.and_eq_true,h1,Int.toNat_natCast] at hf
    obtain ⟨⟨f1,f2⟩,f3⟩:=hf
    rw [Int.toNat_natCast]
    refine ⟨(f9n b e (by omega)).2 f1,(plus e).2 f3,fun ht=>?_⟩
    obtain ⟨j,hj⟩:=List.mem_iff_getElem?.1 ht
    rw [List.getElem?_take] at hj
    split at hj
    ·rename_i hji
     by_cases hki:k<i
     ·have:(e:Int)∈l.drop (k+1):=List.mem_iff_getElem?.2 ⟨i - (k+1),by rw [List.getElem?_drop,show k+1+(i - (k+1))=i by omega,hd]⟩
      have:=List.all_eq_true.1 f2 _ this
      simp at this
     ·exact h3 (List.mem_iff_getElem?.2 ⟨j,by rw [List.getElem?_take,if_pos (by omega),hj]⟩)
    ·cases hj
  exact ⟨⟨main 0,main 1⟩,main 2⟩
theorem f9v {b:PBook} (hs:PSane b) {l:List Int} (hl:b.f9k l):b.a4k (b.e7j l)=(b.f8L l b.st.days.length&&((b.held (b.f8J l l)).safe (b.e5W (e6D (fun j=>l.contains (j:Int)) b.st.days.length))).1):=by
 have hd5:=hs.st.d5
 have hr3:=hs.r3
 rw [f9w b hs,f9O hs hl]
 have e1:e6D (fun j=>(b.e7j l).l.contains (j:Int)) b.st.days.length=e6D (fun j=>l.contains (j:Int)) b.st.days.length:=by
  have:∀ n,n<=5->e6D (fun j=>(b.e7j l).l.contains (j:Int)) n=e6D (fun j=>l.contains (j:Int)) n:=by
   intro n
   induction n with
   | zero=>intro _;rfl
   | succ n ih=>intro hn;simp only [e6D,ih (by omega),f9l b l hl.1 hr3 (show ¬ (n:Int)=9 by omega)]
  exact this _ hd5
 have e2:b.f8J (b.e7j l).l (b.e7j l).l=b.f8J l l:=by
  apply List.ext_getElem?
  intro d
  simp only [PBook.f8J,List.getElem?_mapIdx]
  cases hz:b.st.days[d]? with
  | none=>rfl
  | some z =>
   have hd:=(List.getElem?_eq_some_iff.1 hz).1
   have h9:¬ (d:Int)=9:=by omega
   simp only [Option.map_some,PBook.dayOf,f9l b l hl.1 hr3 h9]
   cases hc:l.contains (d:Int) with
   | false=>rfl
   | true=>rw [f9D b l hl.1 hr3 (List.contains_iff_mem.1 hc)]
 rw [e1,e2]
theorem f9q (b:PBook) (f:Nat->Bool) (j:Nat):b.e5W (e6D f (j+1))=if f j then b.e5W (e6D f j)++b.newN j (b.e5i j) else b.e5W (e6D f j):=by
 simp only [e6D]
 split
 ·rw [f0N]
 ·rfl
section
variable {Γ:Env} [P04 Γ] [G04 Γ] [GCo Γ] [GPr Γ]
theorem f9M (b:PBook) [hb:b.Fits] (hs:PSane b) (i d:Int):K Γ (.fn 253) [.agg b.c,vi i,vi d] []=some (vb (b.st.rests.any (·.same ⟨d,i⟩)),[]):=by
 have hr6:=hs.st.r6
 rw [← f3f]
 have hL {β:Type} (Q:Ex->St->Option β):E Γ f8V ⟨[(1,vi i),(2,vi d),(3,.sc (.ptr 0 0)),(7,vi 0)],[.var b.c]⟩ Q =
  match a0z (fun _ x=>Rest.same x ⟨d,i⟩) 0 b.st.rests with
  | some _=>Q .ret ⟨[(6,vb true)],[.var b.c]⟩
  | none=>Q (.exit 0) ⟨[(1,vi i),(2,vi d),(3,.sc (.ptr 0 0)),(7,vi b.st.rests.length),(13,vb false)],[.var b.c]⟩:=by
  refine (a4L (fun j=>⟨[(1,vi i),(2,vi d),(3,.sc (.ptr 0 0)),(7,vi j)],[.var b.c]⟩) b.st.rests (fun _ x=>Rest.same x ⟨d,i⟩)
   (fun _ _=>(.ret,⟨[(6,vb true)],[.var b.c]⟩)) (.exit 0,⟨[(1,vi i),(2,vi d),(3,.sc (.ptr 0 0)),(7,vi b.st.rests.length),(13,vb false)],[.var b.c]⟩) Q ?_ ?_ ?_).trans ?_
  ·intro j x hx hf
   have hj:=(List.getElem?_eq_some_iff.1 hx).1
   have hlt:=decide_eq_true (show (j:Int)<b.st.rests.length by omega)
   have hjw:IntKind.i64.wrap ((j:Int)+1)=j+1:=wrap_i64 (by omega) (by omega)
   have hk:a0c [1,1] x.c [ci d,ci i]=some false:=by have:=Rest.a0c x ⟨d,i⟩;rw [show (decide (x.day=d)&&decide (x.singer=i))=false from hf] at this;exact this
   (simp only [go_sem,simprocAttr,f8H,hx,hlt,hjw,hk,List.length_map];repeat' ((first|refine brY ?_|refine brN ?_|refine brA ?_|refine brD ?_|refine brF ?_);(try simp only [go_sem,simprocAttr,f8H,hx,hlt,hjw,hk,List.length_map])))
   rfl
  ·intro j x hx hf
   have hj:=(List.getElem?_eq_some_iff.1 hx).1
   have hlt:=decide_eq_true (show (j:Int)<b.st.rests.length by omega)
   have hk:a0c [1,1] x.c [ci d,ci i]=some true:=by have:=Rest.a0c x ⟨d,i⟩;rw [show (decide (x.day=d)&&decide (x.singer=i))=true from hf] at this;exact this
   (simp only [go_sem,simprocAttr,f8H,hx,hlt,hk,List.length_map];repeat' ((first|refine brY ?_|refine brN ?_|refine brA ?_|refine brD ?_|refine brF ?_);(try simp only [go_sem,simprocAttr,f8H,hx,hlt,hk,List.length_map])))
  ·have hlt:=decide_eq_false (show ¬ (b.st.rests.length:Int)<b.st.rests.length by omega)
   (simp only [go_sem,simprocAttr,f8H,hlt,List.length_map];repeat' ((first|refine brY ?_|refine brN ?_|refine brA ?_|refine brD ?_|refine brF ?_);(try simp only [go_sem,simprocAttr,f8H,hlt,List.length_map])))
  ·cases a0z (fun _ x=>Rest.same x ⟨d,i⟩) 0 b.st.rests<;>rfl
 cases hf:a0z (fun _ x=>Rest.same x ⟨d,i⟩) 0 b.st.rests with
 | none=>simp only [hf] at hL;rw [K_fn P04.f253 _ _ rfl];(simp only [go_sem,simprocAttr,f8I,hL,Option.isSome_none];repeat' ((first|refine brY ?_|refine brN ?_|refine brA ?_|refine brD ?_|refine brF ?_);(try simp only [go_sem,simprocAttr,f8I,hL,Option.isSome_none])))
 | some q=>simp only [hf] at hL;rw [K_fn P04.f253 _ _ rfl];(simp only [go_sem,simprocAttr,f8I,hL,Option.isSome_some];repeat' ((first|refine brY ?_|refine brN ?_|refine brA ?_|refine brD ?_|refine brF ?_);(try simp only [go_sem,simprocAttr,f8I,hL,Option.isSome_some])))
abbrev xS (b:PBook):Obj:=.var (B10 b.st (.msl 2 0 b.st.days.length 0 3))
section
variable (b:PBook) (k:SK) (D:List Int) (is:Bool) (P:List Rest)
abbrev sS (fair:Bool) (d:Nat):List (Nat × V):=[(2,.sc (.ptr 0 0)),(5,.sc (.sl k 1 (nums D))),(6,vb is),(10,.sc (.ptr 1 0)),(11,.sc (ownF 2 (P.map Rest.c))),(12,vb fair),(13,vi d)]
theorem f9R [hb:b.Fits] (hs:PSane b) (ds:List Day) (fair:Bool) (d:Nat) (a:Int) {β:Type} (Q:Ex->St->Option β) :
 E Γ f8P ⟨sS k D is P fair d++[(14,vi a),(15,vi 0)],[.var b.c,xS b,.var (flD ds)]⟩ Q =
 Q (.exit 2) ⟨sS k D is P (fair&&b.st.signs.all (fun y=>decide (y.day<d))) d++[(14,vi a),(15,vi b.st.signs.length),(85,vb false)],[.var b.c,xS b,.var (flD ds)]⟩:=by
 have h4:=hs.st.g4
 simp only [sS,List.cons_append,List.nil_append]
 refine (a4Q (fun j=>⟨[(2,.sc (.ptr 0 0)),(5,.sc (.sl k 1 (nums D))),(6,vb is),(10,.sc (.ptr 1 0)),(11,.sc (ownF 2 (P.map Rest.c))),(12,vb (fair&&(b.st.signs.take j).all (fun y=>decide (y.day<d)))),(13,vi d),(14,vi a),(15,vi j)],[.var b.c,xS b,.var (flD ds)]⟩) b.st.signs
  (.exit 2,⟨[(2,.sc (.ptr 0 0)),(5,.sc (.sl k 1 (nums D))),(6,vb is),(10,.sc (.ptr 1 0)),(11,.sc (ownF 2 (P.map Rest.c))),(12,vb (fair&&b.st.signs.all (fun y=>decide (y.day<d)))),(13,vi d),(14,vi a),(15,vi b.st.signs.length),(85,vb false)],[.var b.c,xS b,.var (flD ds)]⟩) Q ?_ ?_ ?_).trans rfl
 ·simp
 ·intro j y hy
  have hj:=(List.getElem?_eq_some_iff.1 hy).1
  have hlt:=decide_eq_true (show (j:Int)<b.st.signs.length by omega)
  have hjw:IntKind.i64.wrap ((j:Int)+1)=j+1:=wrap_i64 (by omega) (by omega)
  rw [take_snoc hy,List.all_append, ← Bool.and_assoc]
  simp only [List.all_cons,List.all_nil,Bool.and_true]
  cases hu:(fair&&(b.st.signs.take j).all (fun y=>decide (y.day<d))) with
  | false =>
   simp only [Bool.false_and]
   (simp only [go_sem,simprocAttr,f8D,hy,hlt,hjw,List.length_map];repeat' ((first|refine brY ?_|refine brN ?_|refine brA ?_|refine brD ?_|refine brF ?_);(try simp only [go_sem,simprocAttr,f8D,hy,hlt,hjw,List.length_map])))
   try rfl
  | true =>
   simp only [Bool.true_and]
   (simp only [go_sem,simprocAttr,f8D,hy,hlt,hjw,List.length_map];repeat' ((first|refine brY ?_|refine brN ?_|refine brA ?_|refine brD ?_|refine brF ?_);(try simp only [go_sem,simprocAttr,f8D,hy,hlt,hjw,List.length_map])))
   try rfl
 ·have hlt:=decide_eq_false (show ¬ (b.st.signs.length:Int)<b.st.signs.length by omega)
  rw [List.take_length]
  (simp only [go_sem,simprocAttr,f8D,hlt,List.length_map];repeat' ((first|refine brY ?_|refine brN ?_|refine brA ?_|refine brD ?_|refine brF ?_);(try simp only [go_sem,simprocAttr,f8D,hlt,List.length_map])))
  try rfl
theorem f9S [hb:b.Fits] (hs:PSane b) (hD:D.length<=3) (ds:List Day) (fair:Bool) (d a:Nat) {β:Type} (Q:Ex->St->Option β) (ha:a<D.length) :
 E Γ f8Q ⟨sS k D is P fair d++[(14,vi a),(16,vi ((a:Int)+1))],[.var b.c,xS b,.var (flD ds)]⟩ Q =
 Q (.exit 4) ⟨sS k D is P (fair&&(D.drop (a+1)).all (fun x=>decide (x≠d))) d++[(14,vi a),(16,vi D.length),(105,vb false)],[.var b.c,xS b,.var (flD ds)]⟩:=by
 simp only [sS,List.cons_append,List.nil_append]
 refine (a4Q (fun j=>⟨[(2,.sc (.ptr 0 0)),(5,.sc (.sl k 1 (nums D))),(6,vb is),(10,.sc (.ptr 1 0)),(11,.sc (ownF 2 (P.map Rest.c))),(12,vb (fair&&((D.drop (a+1)).take j).all (fun x=>decide (x≠d)))),(13,vi d),(14,vi a),(16,vi (((a+1+j:Nat):Int)))],[.var b.c,xS b,.var (flD ds)]⟩) (D.drop (a+1))
  (.exit 4,⟨[(2,.sc (.ptr 0 0)),(5,.sc (.sl k 1 (nums D))),(6,vb is),(10,.sc (.ptr 1 0)),(11,.sc (ownF 2 (P.map Rest.c))),(12,vb (fair&&(D.drop (a+1)).all (fun x=>decide (x≠d)))),(13,vi d),(14,vi a),(16,vi D.length),(105,vb false)],[.var b.c,xS b,.var (flD ds)]⟩) Q ?_ ?_ ?_).trans rfl
 ·simp
 ·intro j x hx
  have hj:=(List.getElem?_eq_some_iff.1 hx).1
  rw [List.length_drop] at hj
  have hlt:=decide_eq_true (show ((a+1+j:Nat):Int)<D.length by omega)
  have hjw:IntKind.i64.wrap (((a+1+j:Nat):Int)+1)=((a+1+(j+1):Nat):Int):=by rw [wrap_i64 (by omega) (by omega)];omega
  have hn:(nums D)[a+1+j]?=some [ci x]:=by rw [e7n, ← List.getElem?_drop,hx];rfl
  rw [take_snoc hx,List.all_append, ← Bool.and_assoc]
  simp only [List.all_cons,List.all_nil,Bool.and_true]
  cases hu:(fair&&((D.drop (a+1)).take j).all (fun x=>decide (x≠d))) with
  | false =>
   simp only [Bool.false_and]
   (simp only [go_sem,simprocAttr,f8E,hn,hlt,hjw,e4t];repeat' ((first|refine brY ?_|refine brN ?_|refine brA ?_|refine brD ?_|refine brF ?_);(try simp only [go_sem,simprocAttr,f8E,hn,hlt,hjw,e4t])))
   try rfl
  | true =>
   have hne:decide (x≠(d:Int))=!decide (x=(d:Int)):=by simp
   simp only [Bool.true_and,hne]
   (simp only [go_sem,simprocAttr,f8E,hn,hlt,hjw,e4t];repeat' ((first|refine brY ?_|refine brN ?_|refine brA ?_|refine brD ?_|refine brF ?_);(try simp only [go_sem,simprocAttr,f8E,hn,hlt,hjw,e4t])))
   try rfl
 ·have hla:a+1+(D.drop (a+1)).length=D.length:=by rw [List.length_drop];omega
  have hlt:=decide_eq_false (show ¬ (D.length:Int)<D.length by omega)
  rw [List.take_length,hla]
  (simp only [go_sem,simprocAttr,f8E,hlt,e4t];repeat' ((first|refine brY ?_|refine brN ?_|refine brA ?_|refine brD ?_|refine brF ?_);(try simp only [go_sem,simprocAttr,f8E,hlt,e4t])))
  try rfl
theorem f9T [hb:b.Fits] (hs:PSane b) (hP:P.length<=100) (ds:List Day) (fair:Bool) (d:Nat) (k2:SK) (l:List Int) (hl:l.length<=3) {β:Type} (Q:Ex->St->Option β) :
 E Γ f8R ⟨sS k D is P fair d++[(17,.sc (.sl k2 1 (nums l))),(19,vi 0)],[.var b.c,xS b,.var (flD ds)]⟩ Q =
 Q (.exit 6) ⟨sS k D is (P++b.newN d l) fair d++[(17,.sc (.sl k2 1 (nums l))),(19,vi l.length),(173,vb false)],[.var b.c,xS b,.var (flD ds)]⟩:=by
 simp only [sS,List.cons_append,List.nil_append]
 refine (a4Q (fun j=>⟨[(2,.sc (.ptr 0 0)),(5,.sc (.sl k 1 (nums D))),(6,vb is),(10,.sc (.ptr 1 0)),(11,.sc (ownF 2 ((P++b.newN d (l.take j)).map Rest.c))),(12,vb fair),(13,vi d),(17,.sc (.sl k2 1 (nums l))),(19,vi j)],[.var b.c,xS b,.var (flD ds)]⟩) l
  (.exit 6,⟨[(2,.sc (.ptr 0 0)),(5,.sc (.sl k 1 (nums D))),(6,vb is),(10,.sc (.ptr 1 0)),(11,.sc (ownF 2 ((P++b.newN d l).map Rest.c))),(12,vb fair),(13,vi d),(17,.sc (.sl k2 1 (nums l))),(19,vi l.length),(173,vb false)],[.var b.c,xS b,.var (flD ds)]⟩) Q ?_ ?_ ?_).trans rfl
 ·simp [PBook.newN]
 ·intro j s hj0
  have hj:=(List.getElem?_eq_some_iff.1 hj0).1
  have hlt:=decide_eq_true (show (j:Int)<l.length by omega)
  have hjw:IntKind.i64.wrap ((j:Int)+1)=j+1:=wrap_i64 (by omega) (by omega)
  have hn:(nums l)[j]?=some [ci s]:=by rw [e7n,hj0];rfl
  have hM:=f9M (Γ:=Γ) b hs s d
  have hnl:=f0C b d (l.take j)
  rw [List.length_take] at hnl
  have happ:=d1w 2 .full ((P++b.newN d (l.take j)).map Rest.c) [ci d,ci s] (by rw [List.length_map,List.length_append];simp only [room];omega)
  have hown:C.own false 2 ((P++b.newN d (l.take j)).map Rest.c++[[ci d,ci s]])=ownF 2 ((P++(b.newN d (l.take j)++[(⟨d,s⟩:Rest)])).map Rest.c):=by
   have e:(P++(b.newN d (l.take j)++[(⟨d,s⟩:Rest)])).map Rest.c=(P++b.newN d (l.take j)).map Rest.c++[[ci d,ci s]]:=by rw [← List.append_assoc,List.map_append (l₁:=P++b.newN d (l.take j))];rfl
   rw [e];exact (d3p 2 _ _).symm
  rw [hown] at happ
  rw [take_snoc hj0,f2a]
  cases hc:b.st.rests.any (·.same ⟨(d:Int),s⟩) with
  | true =>
   rw [hc] at hM
   simp only [if_true]
   (simp only [go_sem,simprocAttr,f8F,hn,hlt,hjw,hM,e4t];repeat' ((first|refine brY ?_|refine brN ?_|refine brA ?_|refine brD ?_|refine brF ?_);(try simp only [go_sem,simprocAttr,f8F,hn,hlt,hjw,hM,e4t])))
   try rfl
  | false =>
   rw [hc] at hM
   simp only [Bool.false_eq_true,if_false]
   (simp only [go_sem,simprocAttr,f8F,hn,hlt,hjw,hM,happ,e4t];repeat' ((first|refine brY ?_|refine brN ?_|refine brA ?_|refine brD ?_|refine brF ?_);(try simp only [go_sem,simprocAttr,f8F,hn,hlt,hjw,hM,happ,e4t])))
   try rfl
 ·have hlt:=decide_eq_false (show ¬ (l.length:Int)<l.length by omega)
  rw [List.take_length]
  (simp only [go_sem,simprocAttr,f8F,hlt,e4t];repeat' ((first|refine brY ?_|refine brN ?_|refine brA ?_|refine brD ?_|refine brF ?_);(try simp only [go_sem,simprocAttr,f8F,hlt,e4t])))
  try rfl
theorem f9C (j:Nat) (z:Day) (hz:b.st.days[j]?=some z) (h:D.contains (j:Int)=true) (i:Nat) (hi:d2R D j=i) :
 b.f8L D (j+1)=(((b.f8L D j&&b.st.signs.all (fun y=>decide (y.day<j)))&&(D.drop (i+1)).all (fun x=>decide (x≠j)))&&decide (z.plain+1<=2)):=by
 simp only [PBook.f8L,if_pos h,PBook.f9b,hi,Int.toNat_natCast,hz,Bool.and_assoc]
set_option maxHeartbeats 2000000 in
theorem f9Q [hb:b.Fits] (hs:PSane b) (hv:b.valid=true) (hc:b.can=true) (hD:D.length=b.rehs.length) {β:Type} (Q:Ex->St->Option β) :
 E Γ f8O ⟨[(2,.sc (.ptr 0 0)),(5,.sc (.sl k 1 (nums D))),(6,vb is),(10,.sc (.ptr 1 0)),(11,.sc (.sl .full 2 [])),(12,vb true),(13,vi 0)],[.var b.c,xS b,.var (flD b.st.days)]⟩ Q =
 Q (.exit 0) ⟨sS k D is (b.e5W (e6D (fun j=>D.contains (j:Int)) b.st.days.length)) (b.f8L D b.st.days.length) b.st.days.length++[(72,vb false)],[.var b.c,xS b,.var (flD (b.f8J D D))]⟩:=by
 have hd5:=hs.st.d5
 have hr3:=hs.r3
 have hss:=hs.ss;have hs3:=hs.st.s3
 refine (a4Q (fun j=>⟨sS k D is (b.e5W (e6D (fun j=>D.contains (j:Int)) j)) (b.f8L D j) j,[.var b.c,xS b,.var (flD (b.f8N D j))]⟩) b.st.days
  (.exit 0,⟨sS k D is (b.e5W (e6D (fun j=>D.contains (j:Int)) b.st.days.length)) (b.f8L D b.st.days.length) b.st.days.length++[(72,vb false)],[.var b.c,xS b,.var (flD (b.f8J D D))]⟩) Q ?_ ?_ ?_).trans rfl
 ·rw [f9u];rfl
 ·intro j z hz
  have hj:=(List.getElem?_eq_some_iff.1 hz).1
  have hlt:=decide_eq_true (show (j:Int)<b.st.days.length by omega)
  have hjw:IntKind.i64.wrap ((j:Int)+1)=j+1:=wrap_i64 (by omega) (by omega)
  have hW:=f2Z (Γ:=Γ) k D j (by omega)
  have hlen:=f9e b D j
  have hrl:=e9h b hs (e6D (fun j=>D.contains (j:Int)) j)
  have hpl:=f9c (fun j=>D.contains (j:Int)) j
  rw [f9q]
  have hcw:=d2z D j
  cases hct:D.contains (j:Int) with
  | false =>
   rw [hct] at hcw
   simp only [Bool.not_false] at hcw
   rw [f9F b D j hct,show b.f8L D (j+1)=b.f8L D j by simp only [PBook.f8L,hct,Bool.false_eq_true,if_false]]
   simp only [Bool.false_eq_true,if_false,sS]
   (simp only [go_sem,simprocAttr,f8B,hlt,hjw,hW,hcw];repeat' ((first|refine brY ?_|refine brN ?_|refine brA ?_|refine brD ?_|refine brF ?_);(try simp only [go_sem,simprocAttr,f8B,hlt,hjw,hW,hcw])))
   try rfl
  | true =>
   rw [hct] at hcw
   simp only [Bool.not_true] at hcw
   obtain ⟨i,hi,hDi,hDt⟩:=f8Y (List.contains_iff_mem.1 hct)
   have hil:=(List.getElem?_eq_some_iff.1 hDi).1
   obtain ⟨y,hy⟩:∃ y,b.rehs[i]?=some y:=⟨_,List.getElem?_eq_getElem (by omega)⟩
   have hwa:b.f8T D j=y.wants:=by simp only [PBook.f8T,hi,Int.toNat_natCast,hy]
   rw [hi] at hW hcw
   rw [f9B b D j z hz hct,hwa,f9C b D j z hz hct i hi]
   simp only [if_true]
   generalize hF:b.f8L D j=fair
   generalize hPe:b.e5W (e6D (fun j=>D.contains (j:Int)) j)=P at *
   have hzd:(b.f8N D j)[j]?=some z:=by rw [f8S,hz,Option.map_some,if_neg (Nat.lt_irrefl j)]
   generalize hde:b.f8N D j=ds at *
   have l1 {β:Type} (Q:Ex->St->Option β):=f9R (Γ:=Γ) b k D is P hs ds fair j i Q
   have l2 {β:Type} (Q:Ex->St->Option β):=f9S (Γ:=Γ) b k D is P hs (by omega) ds (fair&&b.st.signs.all (fun y=>decide (y.day<j))) j i Q hil
   generalize hf1:(fair&&b.st.signs.all (fun y=>decide (y.day<(j:Int))))=f1 at *
   generalize hf2:(f1&&(D.drop (i+1)).all (fun x=>decide (x≠(j:Int))))=f2 at *
   have hdy:=hs.st.dy z (List.mem_of_getElem? hz)
   obtain ⟨g0, -,g2⟩:=e9L ds j z hzd
   obtain ⟨s0, -⟩:=e9M ds j z hzd
   have hz':(ds.set j { z with plain:=z.plain+1 })[j]?=some { z with plain:=z.plain+1 }:=by
    rw [List.getElem?_set_self (by rw [hlen];exact hj)]
   obtain ⟨-, -,g2'⟩:=e9L _ j _ hz'
   obtain ⟨-,s2'⟩:=e9M _ j _ hz'
   have hz2:(ds.set j ⟨z.plain+1,z.full,max z.needs y.wants⟩)[j]?=some ⟨z.plain+1,z.full,max z.needs y.wants⟩:=by
    rw [List.getElem?_set_self (by rw [hlen];exact hj)]
   obtain ⟨g0'', -, -⟩:=e9L _ j _ hz2
   have hpw:IntKind.i64.wrap (z.plain+1)=z.plain+1:=wrap_i64 (by omega) (by omega)
   have hb0:decide (0<=(j:Int)/\(j:Int)<b.st.days.length)=true:=decide_eq_true (by omega)
   have hq0:decide (j*3+1<=3*ds.length)=true:=decide_eq_true (by omega)
   have hq2:decide (j*3+2+1<=3*ds.length)=true:=decide_eq_true (by omega)
   have hiw:IntKind.i64.wrap ((i:Int)+1)=i+1:=wrap_i64 (by omega) (by omega)
   have hK:=e9Q (Γ:=Γ) b j
   have hisd:b.a2O j=true:=within_iff.2 (by omega)
   have ek:b.kept j=(b.e5i j,0):=by simp [PBook.kept,PBook.err,hv,hisd,hc]
   rw [ek] at hK
   have hkl:=e7r b j
   have hO:=f1y (Γ:=Γ) (kU (b.e5i j)) (b.e5i j) b.sleeps.length (by omega) (by omega)
   rw [show ordered (b.e5i j) b.sleeps.length=true by rw [show b.e5i j=_ from e8K b j _];exact f0H _ _ (by omega)] at hO
   have l3 (fair:Bool) {β:Type} (Q:Ex->St->Option β):=f9T (Γ:=Γ) b k D is P hs (by omega) (ds.set j ⟨z.plain+1,z.full,max z.needs y.wants⟩) fair j (kU (b.e5i j)) (b.e5i j) (by omega) Q
   simp only [List.set_set] at s2'
   simp only [sS,List.cons_append,List.nil_append] at l1 l2 l3 ⊢
   cases f2 with
   | false =>
    simp only [Bool.false_and]
    (simp only [go_sem,simprocAttr,f8B,hlt,hjw,hiw,hW,hcw,l1,l2,hy,g0,g2,g2',s0,s2',g0'',hpw,hb0,hq0,hq2,hK,hO,l3,e4t,List.length_map,List.length_set,Int.toNat_natCast,Nat.zero_add];repeat' ((first|refine brY ?_|refine brN ?_|refine brA ?_|refine brD ?_|refine brF ?_);(try simp only [go_sem,simprocAttr,f8B,hlt,hjw,hiw,hW,hcw,l1,l2,hy,g0,g2,g2',s0,s2',g0'',hpw,hb0,hq0,hq2,hK,hO,l3,e4t,List.length_map,List.length_set,Int.toNat_natCast,Nat.zero_add])))
    try rfl
   | true =>
    simp only [Bool.true_and]
    (simp only [go_sem,simprocAttr,f8B,hlt,hjw,hiw,hW,hcw,l1,l2,hy,g0,g2,g2',s0,s2',g0'',hpw,hb0,hq0,hq2,hK,hO,l3,e4t,List.length_map,List.length_set,Int.toNat_natCast,Nat.zero_add];repeat' ((first|refine brY ?_|refine brN ?_|refine brA ?_|refine brD ?_|refine brF ?_);(try simp only [go_sem,simprocAttr,f8B,hlt,hjw,hiw,hW,hcw,l1,l2,hy,g0,g2,g2',s0,s2',g0'',hpw,hb0,hq0,hq2,hK,hO,l3,e4t,List.length_map,List.length_set,Int.toNat_natCast,Nat.zero_add])))
    try rfl
 ·have hlt:=decide_eq_false (show ¬ (b.st.days.length:Int)<b.st.days.length by omega)
  rw [f9A]
  simp only [sS,List.cons_append,List.nil_append]
  (simp only [go_sem,simprocAttr,f8B,hlt];repeat' ((first|refine brY ?_|refine brN ?_|refine brA ?_|refine brD ?_|refine brF ?_);(try simp only [go_sem,simprocAttr,f8B,hlt])))
  try rfl
end
theorem f9j (b:PBook) [hb:b.Fits] (k:SK) (bits:List Int) (hl:bits.length<=9223372036854775807):K Γ (.fn 354) [.agg b.c,.sc (.sl k 1 (nums bits))] []=some (vb true,[]):=by
 cases hv:b.valid with
 | false =>
  rw [K_fn P04.f354 _ _ rfl]
  (simp only [go_sem,simprocAttr,f8C,hv];repeat' ((first|refine brY ?_|refine brN ?_|refine brA ?_|refine brD ?_|refine brF ?_);(try simp only [go_sem,simprocAttr,f8C,hv])))
 | true =>
  have hs:=e6h hv
  have hD:=f9N (Γ:=Γ) b hs k bits hl
  have hok:=f9L hs bits
  have hr3:=hs.r3
  have hd1:=hs.st.d1;have hd5:=hs.st.d5
  generalize b.drawn bits=D at *
  have hDl:=hok.1
  have hM:=f4z (Γ:=Γ) b (kF D) D (by omega)
  have hR:=e9s (Γ:=Γ) b
  rw [hv] at hR
  cases hc:b.can with
  | false =>
   have e:b.may D=(false,102):=by simp [PBook.may,PBook.err,hv,hc]
   rw [e] at hM
   rw [hc] at hR
   rw [K_fn P04.f354 _ _ rfl]
   (simp only [go_sem,simprocAttr,f8C,hv,hD,hM,hR];repeat' ((first|refine brY ?_|refine brN ?_|refine brA ?_|refine brD ?_|refine brF ?_);(try simp only [go_sem,simprocAttr,f8C,hv,hD,hM,hR])))
  | true =>
   have he:b.err true=0:=by simp [PBook.err,hv,hc]
   have e:b.may D=(b.a4k (b.e7j D),0):=by simp only [PBook.may,if_pos he,hDl,decide_true,Bool.true_and]
   rw [e] at hM
   have hfair:=f9v hs hok
   have hL {β:Type} (is:Bool) (Q:Ex->St->Option β):=f9Q (Γ:=Γ) b (kF D) D is hs hv hc hDl Q
   have hne:b.st.days≠[]:=fun h=>by rw [h] at hd1;exact absurd hd1 (by decide)
   have ha {β:Type} (p:Nat) (f:C->Option Obj->Option β):=b6J 3 b.st.kd (b.st.days.map Day.c) p f (by simpa using hne) (by simp only [List.length_map,room];omega)
   have hfx {t:List (Nat × V)} (ht:get t 10=.sc (.ptr 1 0)) (x0:Obj) (rest:List Obj):=f9U ht x0 rest b.st (b.f8J D D) b.st.days.length (by simp [PBook.f8J]) (by omega)
   have hF:(b.held (b.f8J D D)).Fits:=⟨hb.st.s,by show (b.f8J D D).length<=_;simp only [PBook.f8J,List.length_mapIdx];exact hb.st.d,hb.st.r,hb.st.g⟩
   have hRl:=e9h b hs (e6D (fun j=>D.contains (j:Int)) b.st.days.length)
   have hpl:=f9c (fun j=>D.contains (j:Int)) b.st.days.length
   generalize hPe:b.e5W (e6D (fun j=>D.contains (j:Int)) b.st.days.length)=P at *
   have hS:=c1N (Γ:=Γ) (b.held (b.f8J D D)) (kF P) P (by omega)
   have hcx:(b.held (b.f8J D D)).c=B10 b.st (.sl .shared 3 ((b.f8J D D).map Day.c)):=rfl
   rw [hcx] at hS
   have hU:a0r (ownF 2 (P.map Rest.c))=.sl (kF P) 2 (P.map Rest.c):=by rw [d3j,d3u]
   have hfl:(b.st.days.map Day.c).flatten=flD b.st.days:=rfl
   generalize (b.held (b.f8J D D)).safe P=q at *
   generalize b.f8L D b.st.days.length=fair at *
   rw [hfair] at hM
   obtain ⟨sf,se⟩:=q
   simp only [sS,List.cons_append,List.nil_append] at hL
   cases fair<;>cases sf<;>simp only [Bool.true_and,Bool.false_and] at hM<;>rw [K_fn P04.f354 _ _ rfl]<;>(simp only [go_sem,simprocAttr,f8C,hv,hD,hM,ha,hfl,hL,hfx,hU,hS,List.length_map];repeat' ((first|refine brY ?_|refine brN ?_|refine brA ?_|refine brD ?_|refine brF ?_);(try simp only [go_sem,simprocAttr,f8C,hv,hD,hM,ha,hfl,hL,hfx,hU,hS,List.length_map])))
end
end Go.Pm.St
