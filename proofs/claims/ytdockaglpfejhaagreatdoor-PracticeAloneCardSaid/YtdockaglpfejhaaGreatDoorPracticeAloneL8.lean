/- The statement PracticeAlone, part 8. -/
import Derived.Test.YtdockaglpfejhaaGreatDoorPracticeAloneL7
set_option linter.all false
set_option maxRecDepth 100000
namespace Go.Pm.St
open Ac
def Z27:List C:=[ci 0,ci 0,ci 0]++Z24
@[go_sem] theorem f6C (x:D3) (b:PBook) (m:C) (z0 z1 z2 z3 z4 z5 z6 z7 z8 z9 z10 z11 z12 z13 z14 z15 z16 z17 z18 z19 z20 z21 z22 z23 z24 z25 z26:C):a1H (a1H [z0,z1,z2,z3,z4,z5,z6,z7,z8,z9,z10,z11,z12,z13,z14,z15,z16,z17,z18,z19,z20,z21,z22,z23,z24,z25,z26] 0 x.c) 3 (P24 b m)=P27 x (P24 b m):=by
 have h:=e8L (P24 b m) x.c [z3,z4,z5,z6,z7,z8,z9,z10,z11,z12,z13,z14,z15,z16,z17,z18,z19,z20,z21,z22,z23,z24,z25,z26] (by rw [e8Y];exact Nat.le_refl 24)
 have h3:x.c.length=3:=rfl
 rw [h3,e8Y] at h
 have e:a1H [z0,z1,z2,z3,z4,z5,z6,z7,z8,z9,z10,z11,z12,z13,z14,z15,z16,z17,z18,z19,z20,z21,z22,z23,z24,z25,z26] 0 x.c=x.c++[z3,z4,z5,z6,z7,z8,z9,z10,z11,z12,z13,z14,z15,z16,z17,z18,z19,z20,z21,z22,z23,z24,z25,z26]:=rfl
 rw [e,h]
 simp only [P27,List.drop_succ_cons,List.drop_zero,List.append_nil]
@[go_sem] theorem f6W (x:D3) (z0 z1 z2 z3 z4 z5 z6 z7 z8 z9 z10 z11 z12 z13 z14 z15 z16 z17 z18 z19 z20 z21 z22 z23 z24 z25 z26:C):(a1H [z0,z1,z2,z3,z4,z5,z6,z7,z8,z9,z10,z11,z12,z13,z14,z15,z16,z17,z18,z19,z20,z21,z22,z23,z24,z25,z26] 0 x.c).length=27:=nrfl rfl
section
variable {Γ:Env} [P04 Γ] [G04 Γ] [GCo Γ] [GPr Γ]
theorem f4Q (b:PBook) [hb:b.Fits] (hs:PSane b) (x:D3) (G:List D3->List Obj) (N l p q:Nat) (hY:YieldsP Γ b G N l) (hp:∀ ts,(G ts)[p]?=some (.var [.fn (.yield l) [] [] []])) (ts:List D3) (hx:b.for x) :
 K Γ (.fn 320) [.agg x.c,vi b.rehs.length,.sc (.eptr b.o 0),.sc (.ptr p 0),.sc (.ptr q 0)] (G ts)=some (vb true,G (ts++b.e6w 0 b.rehs.length x)):=by
 have hlen:=hY.len ts
 have hund:=hY.und ts
 have hpN:p<N:=by have:=(List.getElem?_eq_some_iff.1 (hp ts)).1;rw [hY.len] at this;exact this
 have hp0:=hp ts
 have hu1:=a0Q _ N 1 hund
 have hT:=List.take_of_length_le (show (G ts).length<=N by omega)
 have hP:=f0i (Γ:=Γ) b hs x hx
 simp only [PBook.e6w]
 cases hc:b.a4k x with
 | false =>
  rw [hc] at hP
  simp only [Bool.false_eq_true,if_false,List.append_nil]
  rw [K_fn P04.f320 _ _ rfl]
  (simp only [go_sem,simprocAttr,e4K,hlen,a0E,hund,hu1,hT,hpN,hP,List.length_map];repeat' (first|((first|refine brY ?_|refine brN ?_|refine brA ?_|refine brD ?_|refine brF ?_|((first|apply a0k|apply a0j);(· intro h;simp only [go_sem,simprocAttr,a0p h,e4K,hlen,a0E,hund,hu1,hT,hpN,hP,List.length_map];exact rfl)));(try simp only [go_sem,simprocAttr,e4K,hlen,a0E,hund,hu1,hT,hpN,hP,List.length_map]))|((first|apply a0e|apply d7E|apply a0a)<;>intro h<;>(try simp only [go_sem,simprocAttr,h,e4K,hlen,a0E,hund,hu1,hT,hpN,hP,List.length_map]))))
  try rfl
 | true =>
  rw [hc] at hP
  have hy:=hY.yield ts x [.var x.c] (by simp [go_sem])
  have hlen2:=hY.len (ts++[x])
  have hund2:=hY.und (ts++[x])
  have hT2:=List.take_of_length_le (show (G (ts++[x])).length<=N by omega)
  simp only [if_true]
  rw [K_fn P04.f320 _ _ rfl]
  (simp only [go_sem,simprocAttr,e4K,hlen,a0E,hlen2,hund,hund2,hu1,hT,hT2,hpN,hp0,hP,hy,List.length_map];repeat' (first|((first|refine brY ?_|refine brN ?_|refine brA ?_|refine brD ?_|refine brF ?_|((first|apply a0k|apply a0j);(· intro h;simp only [go_sem,simprocAttr,a0p h,e4K,hlen,a0E,hlen2,hund,hund2,hu1,hT,hT2,hpN,hp0,hP,hy,List.length_map];exact rfl)));(try simp only [go_sem,simprocAttr,e4K,hlen,a0E,hlen2,hund,hund2,hu1,hT,hT2,hpN,hp0,hP,hy,List.length_map]))|((first|apply a0e|apply d7E|apply a0a)<;>intro h<;>(try simp only [go_sem,simprocAttr,h,e4K,hlen,a0E,hlen2,hund,hund2,hu1,hT,hT2,hpN,hp0,hP,hy,List.length_map]))))
  try rfl
theorem e9a {h:List Obj} {i:Nat} {o:Obj} (e:h[i]?=some o) {n:Nat} (hn:h.length=n):i<n:=by
 have:=(List.getElem?_eq_some_iff.1 e).1;omega
theorem f4R (b:PBook) [hb:b.Fits] (hs:PSane b) (n at_:Nat) (x:D3) (G:List D3->List Obj) (N l p q:Nat) (hY:YieldsP Γ b G N l) (hp:∀ ts,(G ts)[p]?=some (.var [.fn (.yield l) [] [] []])) (hq:∀ ts,(G ts)[q]?=some (.var [layF b p q]))
 (hn:at_+(n+1)=b.rehs.length) (y:Reh) (hy:b.rehs[at_]?=some y) (hx:∀ (i:Nat) day,x.l[i]?=some day->at_<=i->day=9)
 (ih:∀ (d:Int) (G':List D3->List Obj) (N':Nat),YieldsP Γ b G' N' l->(∀ ts,(G' ts)[p]?=some (.var [.fn (.yield l) [] [] []]))->(∀ ts,(G' ts)[q]?=some (.var [layF b p q]))->∀ ts,
  K Γ (.fn 320) [.agg (x.put at_ d).c,vi ((at_+1:Nat):Int),.sc (.eptr b.o 0),.sc (.ptr p 0),.sc (.ptr q 0)] (G' ts)=some (vb true,G' (ts++b.e6w n (at_+1) (x.put at_ d)))) (ts:List D3)
 {β:Type} (Q:Ex->St->Option β) (R:Option β)
 (hQ:∀ d',Q (.exit 0) ⟨[(1,vi at_),(4,.sc (.ptr q 0)),(5,.sc (.ptr N 0)),(8,.sc (.ptr (N+1) 0)),(9,vi (y.til+1)),(38,vb false)],G (ts++e7U (fun d=>b.e6w n (at_+1) (x.put at_ d)) (x.l.take at_) y.fr y.many)++[.var (x.put at_ d').c,.var y.c]⟩=R) :
 E Γ e7k ⟨[(1,vi at_),(4,.sc (.ptr q 0)),(5,.sc (.ptr N 0)),(8,.sc (.ptr (N+1) 0)),(9,vi y.fr)],G ts++[.var x.c,.var y.c]⟩ Q=R:=by
 have hr3:=hs.r3
 have hpN:p<N:=e9a (hp ts) (hY.len ts)
 have hqN:q<N:=e9a (hq ts) (hY.len ts)
 obtain ⟨hy1,hy2,hy3, -⟩:=hs.rh y (List.mem_of_getElem? hy)
 have hd5:=hs.st.d5
 have hm:(y.many:Int)=y.til - y.fr+1:=by simp only [Reh.many];omega
 have hx9:x.put at_ 9=x:=by
  have h3:at_<x.l.length:=by show at_<3;omega
  refine D3.a3Y x at_ 9 ?_
  rw [List.getElem?_eq_getElem h3,hx at_ _ (List.getElem?_eq_getElem h3) (Nat.le_refl _)]
 refine a4q y.many (fun j (d':Int)=>⟨[(1,vi at_),(4,.sc (.ptr q 0)),(5,.sc (.ptr N 0)),(8,.sc (.ptr (N+1) 0)),(9,vi (y.fr+j))],G (ts++e7U (fun d=>b.e6w n (at_+1) (x.put at_ d)) (x.l.take at_) y.fr j)++[.var (x.put at_ d').c,.var y.c]⟩) (fun _ _=>True)
  (fun d'=>(.exit 0,⟨[(1,vi at_),(4,.sc (.ptr q 0)),(5,.sc (.ptr N 0)),(8,.sc (.ptr (N+1) 0)),(9,vi (y.til+1)),(38,vb false)],G (ts++e7U (fun d=>b.e6w n (at_+1) (x.put at_ d)) (x.l.take at_) y.fr y.many)++[.var (x.put at_ d').c,.var y.c]⟩)) 9 (by simp [e7U,hx9]) trivial ?_ ?_ (fun d' _=>hQ d')
 ·intro j d' hj _
  have hle:=decide_eq_true (show y.fr+(j:Int)<=y.til by omega)
  have hjw:IntKind.i64.wrap (y.fr+(j:Int)+1)=y.fr+((j+1:Nat):Int):=by rw [wrap_i64 (by omega) (by omega)];omega
  have haw:IntKind.i64.wrap ((at_:Int)+1)=((at_+1:Nat):Int):=by rw [wrap_i64 (by omega) (by omega)];omega
  have hb3:decide (0<=(at_:Int)/\(at_:Int)<3)=true:=decide_eq_true (by omega)
  have hsl:a8k 3 1 (.sc (.ptr N 0)) none (some (vi at_)) none=some (.msl N 0 at_ 3 1):=by
   have:at_=0\/at_=1\/at_=2:=by omega
   rcases this with rfl|rfl|rfl<;>rfl
  generalize hT:ts++e7U (fun d=>b.e6w n (at_+1) (x.put at_ d)) (x.l.take at_) y.fr j=T
  have hlen:=hY.len T
  have hund:=hY.und T
  have hu2:=a0Q _ N 2 hund
  have hq0:=hq T
  have hC:=f0S (Γ:=Γ) (G T++[.var (x.put at_ d').c,.var y.c]) (N+2) N (by simp [hlen]) (by rw [List.all_append,hu2];simp [go_sem]) (by omega) (x.put at_ d').l at_ 3 (by show at_<=3;omega) (by omega) (by rw [b5P _ _ _ hlen];rfl) (y.fr+j)
  rw [D3.f2R] at hC
  have hput:(x.put at_ d').c.set at_ (ci (y.fr+j))=(x.put at_ (y.fr+j)).c:=by rw [D3.f1C,D3.f1k]
  have hF:=hY.frame [.var (x.put at_ (y.fr+j)).c,.var y.c] (by simp [go_sem])
  have hi:=ih (y.fr+j) _ _ hF (fun ts=>by rw [b2M _ _ _ (by rw [hY.len];exact hpN),hp]) (fun ts=>by rw [b2M _ _ _ (by rw [hY.len];exact hqN),hq]) T
  simp only [e7U, ← List.append_assoc,hT]
  cases hc:(x.l.take at_).contains (y.fr+(j:Int)) with
  | true =>
   rw [hc] at hC
   refine ⟨d',trivial,?_⟩
   simp only [if_true,List.append_nil,hT]
   (simp only [go_sem,simprocAttr,e4L,hlen,a0E,hle,hjw,hund,hu2,hsl,hC,hqN];repeat' (first|((first|refine brY ?_|refine brN ?_|refine brA ?_|refine brD ?_|refine brF ?_|((first|apply a0k|apply a0j);(· intro h;simp only [go_sem,simprocAttr,a0p h,e4L,hlen,a0E,hle,hjw,hund,hu2,hsl,hC,hqN];exact rfl)));(try simp only [go_sem,simprocAttr,e4L,hlen,a0E,hle,hjw,hund,hu2,hsl,hC,hqN]))|((first|apply a0e|apply d7E|apply a0a)<;>intro h<;>(try simp only [go_sem,simprocAttr,h,e4L,hlen,a0E,hle,hjw,hund,hu2,hsl,hC,hqN]))))
   try rfl
  | false =>
   rw [hc] at hC
   refine ⟨y.fr+j,trivial,?_⟩
   simp only [Bool.false_eq_true,if_false]
   generalize T++b.e6w n (at_+1) (x.put at_ (y.fr+j))=T2 at *
   have hlen2:=hY.len T2
   have hund2:=hY.und T2
   have hu22:=a0Q _ N 2 hund2
   (simp only [go_sem,simprocAttr,e4L,hlen,a0E,hlen2,hle,hjw,haw,hb3,hund,hund2,hu2,hu22,hsl,hC,hqN,hq0,hput,hi,Int.toNat_natCast,Nat.mul_one,Nat.zero_add];repeat' (first|((first|refine brY ?_|refine brN ?_|refine brA ?_|refine brD ?_|refine brF ?_|((first|apply a0k|apply a0j);(· intro h;simp only [go_sem,simprocAttr,a0p h,e4L,hlen,a0E,hlen2,hle,hjw,haw,hb3,hund,hund2,hu2,hu22,hsl,hC,hqN,hq0,hput,hi,Int.toNat_natCast,Nat.mul_one,Nat.zero_add];exact rfl)));(try simp only [go_sem,simprocAttr,e4L,hlen,a0E,hlen2,hle,hjw,haw,hb3,hund,hund2,hu2,hu22,hsl,hC,hqN,hq0,hput,hi,Int.toNat_natCast,Nat.mul_one,Nat.zero_add]))|((first|apply a0e|apply d7E|apply a0a)<;>intro h<;>(try simp only [go_sem,simprocAttr,h,e4L,hlen,a0E,hlen2,hle,hjw,haw,hb3,hund,hund2,hu2,hu22,hsl,hC,hqN,hq0,hput,hi,Int.toNat_natCast,Nat.mul_one,Nat.zero_add]))))
   try rfl
 ·intro d' _
  have hle:=decide_eq_false (show ¬ y.fr+(y.many:Int)<=y.til by omega)
  have hme:y.fr+(y.many:Int)=y.til+1:=by omega
  generalize ts++e7U (fun d=>b.e6w n (at_+1) (x.put at_ d)) (x.l.take at_) y.fr y.many=T
  have hlen:=hY.len T
  have hund:=hY.und T
  rw [← hme]
  (simp only [go_sem,simprocAttr,e4L,hlen,a0E,hle,hund];repeat' (first|((first|refine brY ?_|refine brN ?_|refine brA ?_|refine brD ?_|refine brF ?_|((first|apply a0k|apply a0j);(· intro h;simp only [go_sem,simprocAttr,a0p h,e4L,hlen,a0E,hle,hund];exact rfl)));(try simp only [go_sem,simprocAttr,e4L,hlen,a0E,hle,hund]))|((first|apply a0e|apply d7E|apply a0a)<;>intro h<;>(try simp only [go_sem,simprocAttr,h,e4L,hlen,a0E,hle,hund]))))
  try rfl
theorem f3h (b:PBook) [hb:b.Fits] (hs:PSane b) (l p q:Nat):∀ (n at_:Nat) (x:D3) (G:List D3->List Obj) (N:Nat) (hY:YieldsP Γ b G N l) (hp:∀ ts,(G ts)[p]?=some (.var [.fn (.yield l) [] [] []])) (hq:∀ ts,(G ts)[q]?=some (.var [layF b p q]))
 (hn:at_+n=b.rehs.length) (hx:∀ (i:Nat) day,x.l[i]?=some day->at_<=i->day=9) (ts:List D3),
 K Γ (.fn 320) [.agg x.c,vi at_,.sc (.eptr b.o 0),.sc (.ptr p 0),.sc (.ptr q 0)] (G ts)=some (vb true,G (ts++b.e6w n at_ x))
 | 0,at_,x,G,N,hY,hp,hq,hn,hx,ts=>by
  obtain rfl:at_=b.rehs.length:=hn
  exact f4Q b hs x G N l p q hY hp ts hx
 | n+1,at_,x,G,N,hY,hp,hq,hn,hx,ts=>by
  have hr3:=hs.r3
  have hpN:p<N:=e9a (hp ts) (hY.len ts)
  have hqN:q<N:=e9a (hq ts) (hY.len ts)
  have hlen:=hY.len ts
  have hund:=hY.und ts
  have hu1:=a0Q _ N 1 hund
  have hu2:=a0Q _ N 2 hund
  obtain ⟨y,hy⟩:∃ y,b.rehs[at_]?=some y:=⟨_,List.getElem?_eq_getElem (by omega)⟩
  have hput3:∀ d,∀ (i:Nat) day,(x.put at_ d).l[i]?=some day->at_+1<=i->day=9:=fun d i day hi hle=>by
   rw [D3.f1j _ _ _ _ (by omega),if_neg (by omega)] at hi
   exact hx i day hi (by omega)
  have ih:∀ (d:Int) (G':List D3->List Obj) (N':Nat),YieldsP Γ b G' N' l->(∀ ts,(G' ts)[p]?=some (.var [.fn (.yield l) [] [] []]))->(∀ ts,(G' ts)[q]?=some (.var [layF b p q]))->∀ ts,
   K Γ (.fn 320) [.agg (x.put at_ d).c,vi ((at_+1:Nat):Int),.sc (.eptr b.o 0),.sc (.ptr p 0),.sc (.ptr q 0)] (G' ts)=some (vb true,G' (ts++b.e6w n (at_+1) (x.put at_ d))) :=
   fun d G' N' hY' hp' hq' ts=>f3h b hs l p q n (at_+1) (x.put at_ d) G' N' hY' hp' hq' (by omega) (hput3 d) ts
  have hne:decide ((at_:Int)=b.rehs.length)=false:=decide_eq_false (by omega)
  have haw:IntKind.i64.wrap ((at_:Int)+1)=((at_+1:Nat):Int):=by rw [wrap_i64 (by omega) (by omega)];omega
  have hb3:decide (0<=(at_:Int)/\(at_:Int)<3)=true:=decide_eq_true (by omega)
  simp only [PBook.e6w,hy]
  rw [K_fn P04.f320 _ _ rfl]
  (simp only [go_sem,simprocAttr,e4K,hlen,a0E,hund,hu1,hne,hy,List.length_map];repeat' (first|((first|refine brY ?_|refine brN ?_|refine brA ?_|refine brD ?_|refine brF ?_|((first|apply a0k|apply a0j);(· intro h;simp only [go_sem,simprocAttr,a0p h,e4K,hlen,a0E,hund,hu1,hne,hy,List.length_map];exact rfl)));(try simp only [go_sem,simprocAttr,e4K,hlen,a0E,hund,hu1,hne,hy,List.length_map]))|((first|apply a0e|apply d7E|apply a0a)<;>intro h<;>(try simp only [go_sem,simprocAttr,h,e4K,hlen,a0E,hund,hu1,hne,hy,List.length_map]))))
  refine f4R b hs n at_ x G N l p q hY hp hq hn y hy hx ih ts _ _ (fun d'=>?_)
  rw [← List.append_assoc]
  generalize ts++e7U (fun d=>b.e6w n (at_+1) (x.put at_ d)) (x.l.take at_) y.fr y.many=T
  have hlenT:=hY.len T
  have hundT:=hY.und T
  have huT2:=a0Q _ N 2 hundT
  have huT1:=a0Q _ N 1 hundT
  have hq0:=hq T
  have hput:(x.put at_ d').c.set at_ (ci 9)=(x.put at_ 9).c:=by rw [D3.f1C,D3.f1k]
  have hF:=hY.frame [.var (x.put at_ 9).c,.var y.c] (by simp [go_sem])
  have hi:=ih 9 _ _ hF (fun ts=>by rw [b2M _ _ _ (by rw [hY.len];exact hpN),hp]) (fun ts=>by rw [b2M _ _ _ (by rw [hY.len];exact hqN),hq]) T
  generalize T++b.e6w n (at_+1) (x.put at_ 9)=T2 at *
  have hlen2:=hY.len T2
  have hund2:=hY.und T2
  have hu22:=a0Q _ N 2 hund2
  have hT2:=List.take_of_length_le (show (G T2).length<=N by omega)
  (simp only [go_sem,simprocAttr,hlen,a0E,hlenT,hlen2,hundT,hund2,huT2,hu22,hqN,hq0,haw,hb3,hput,hi,hT2,Int.toNat_natCast,Nat.mul_one,Nat.zero_add];repeat' (first|((first|refine brY ?_|refine brN ?_|refine brA ?_|refine brD ?_|refine brF ?_|((first|apply a0k|apply a0j);(· intro h;simp only [go_sem,simprocAttr,a0p h,hlen,a0E,hlenT,hlen2,hundT,hund2,huT2,hu22,hqN,hq0,haw,hb3,hput,hi,hT2,Int.toNat_natCast,Nat.mul_one,Nat.zero_add];exact rfl)));(try simp only [go_sem,simprocAttr,hlen,a0E,hlenT,hlen2,hundT,hund2,huT2,hu22,hqN,hq0,haw,hb3,hput,hi,hT2,Int.toNat_natCast,Nat.mul_one,Nat.zero_add]))|((first|apply a0e|apply d7E|apply a0a)<;>intro h<;>(try simp only [go_sem,simprocAttr,h,hlen,a0E,hlenT,hlen2,hundT,hund2,huT2,hu22,hqN,hq0,haw,hb3,hput,hi,hT2,Int.toNat_natCast,Nat.mul_one,Nat.zero_add]))))
  try rfl
end
end Go.Pm.St
namespace Go.Pm.St
open Ac
theorem f2l {α:Type} (l:List α) (p q r:Nat) (x v w o:α) (hpq:p≠q) (hpr:p≠r) (h:l[p]?=some o):(((l.set p x).set q v).set r w).set p o=(l.set q v).set r w:=by
 have e:(l.set p x).set q v=(l.set q v).set p x:=List.set_comm _ _ hpq
 rw [e]
 exact b9A (l.set q v) p r x w o hpr (by rw [List.getElem?_set_ne (Ne.symm hpq),h])
theorem f2k {α:Type} (l:List α) (p:Nat) (x o:α) (h:l[p]?=some o):(l.set p x).set p o=l:=by
 rw [List.set_set,b1j _ _ _ h]
def PBook.pick (b:PBook) (o:Option D3) (x:D3):Option D3:=match o with
 | none=>some x
 | some y=>if b.better x y then some x else some y
def PBook.e7x (b:PBook) (l:List D3):Option D3:=l.foldl b.pick none
theorem f0R (b:PBook) (l:List D3) (x:D3):b.e7x (l++[x])=b.pick (b.e7x l) x:=by simp [PBook.e7x]
def e7h (b:PBook) (o:Option D3):List C:=match o with
 | none=>Z27
 | some x=>P27 x b.o
section
variable (b:PBook) (o:Option D3) (x y:D3)
@[go_sem] theorem e9t:(e7h b o).length=27:=by cases o<;>rfl
@[go_sem] theorem f4M:a1H (e7h b o) 0 (P27 x b.o)=P27 x b.o:=by
 rw [e7D _ _ (by rw [e9t];exact Nat.le_refl 27),e7R,List.drop_of_length_le (by rw [e9t];exact Nat.le_refl 27),List.append_nil]
@[go_sem] theorem f4e (n:Nat):C.a0G n (e7h b o)=true:=by cases o<;>simp [e7h,Z27,Z24,go_sem]
@[go_sem] theorem f2t (m:C) (z0 z1 z2 z3 z4 z5 z6 z7 z8 z9 z10 z11 z12 z13 z14 z15 z16 z17 z18 z19 z20 z21 z22 z23 z24 z25 z26:C):a1H [z0,z1,z2,z3,z4,z5,z6,z7,z8,z9,z10,z11,z12,z13,z14,z15,z16,z17,z18,z19,z20,z21,z22,z23,z24,z25,z26] 0 (P27 x (P24 b m))=P27 x (P24 b m):=by
 rw [e7D _ _ (by rw [e7R];exact Nat.le_refl 27),e7R]
 simp only [List.drop_succ_cons,List.drop_zero,List.append_nil]
@[go_sem] theorem f7t:Z27.length=27:=nrfl rfl
@[go_sem] theorem f7u (m:C):a1H Z27 0 (P27 x (P24 b m))=P27 x (P24 b m):=f2t b x m _ _ _ _ _ _ _ _ _ _ _ _ _ _ _ _ _ _ _ _ _ _ _ _ _ _ _
@[go_sem] theorem f6X (m m':C):a1H (P27 y (P24 b m')) 0 (P27 x (P24 b m))=P27 x (P24 b m):=by
 rw [e7D _ _ (by rw [e7R,e7R];exact Nat.le_refl 27),e7R,List.drop_of_length_le (by rw [e7R];exact Nat.le_refl 27),List.append_nil]
@[go_sem] theorem f6E (m:C):(P27 x (P24 b m))[0]?=some (ci x.d0):=nrfl rfl
end
section
variable {Γ:Env} [P04 Γ] [G04 Γ] [GCo Γ] [GPr Γ]
theorem e7E {β:Type} (s:St) (Q:Ex->St->Option β):E Γ e6y s Q=E Γ ((.region 1 [
 I 0 9 (.alloc 0 [.int .i64 0,.int .i64 0,.int .i64 0,.int .i64 0,.int .i64 0,.int .i64 0,.int .i64 0,.int .i64 0,.int .i64 0,.int .i64 0,.int .i64 0,.sl .nil 2 [],.int .i64 0,.sl .nil 3 [],.sl .nil 2 [],.int .i64 0,.int .i64 0,.int .i64 0,.int .i64 0,.int .i64 0,.int .i64 0,.sl .nil 3 [],.sl .nil 2 [],.sl .nil 4 [],.sl .nil 1 [],.sl .nil 3 [],.imap true false []]),
 J 1 (.store 27 (.t 9) (.t 22))] false [6,7,8,9])) s Q:=rfl
theorem e7F {β:Type} (s:St) (Q:Ex->St->Option β):E Γ e6z s Q=E Γ ((.block 1 (.seq (.region 0 [
 I 0 23 (oL 7),
 I 1 24 (oU .not 23),
 M 2 25 24,
 U 3 26 25 (oF 0 8),
 U 4 27 25 (oL 26),
 U 5 28 25 (oS 27 9),
 U 6 29 25 (oS 27 6),
 U 7 30 25 (.call true (.t 27) [.t 28,.t 29]),
 I 8 31 (oO 25 30)] false [6,7,9,31])
 (.cond (.t 31)
 (.region 0 [
  I 0 32 (oS 27 9),
  J 1 (.store 27 (.t 6) (.t 32)),
  J 2 (.store 1 (.t 7) (kB true))] false [])
 (.skip))))) s Q:=rfl
def e8c (b:PBook):List (Nat × V):=[(1,.sc (.ptr 0 0)),(6,.sc (.ptr 2 0)),(7,.sc (.ptr 3 0)),(8,.sc (.ptr 4 0)),(21,.sc (.fn (.fn 311) [] [] [.eptr b.o 0]))]
def e7l (b:PBook) (ts:List D3):List Obj :=
 [.var b.c,.var b.o,.var (e7h b (b.e7x ts)),.var [.bool (b.e7x ts).isSome],.var [.fn (.fn 310) [] [] []],.loop .ready none (e8c b) [22] e6y e6z]
theorem f2T (b:PBook) (hs:PSane b) (H:List Obj) (M:Nat) (o:Option D3) (hn:H.length=M) (h6:6<=M)
 (h2:H[2]?=some (.var (e7h b o))) (h3:H[3]?=some (.var [.bool o.isSome])) (h4:H[4]?=some (.var [.fn (.fn 310) [] [] []])) (h5:H[5]?=some (.loop .ready none (e8c b) [22] e6y e6z)) (hu:H.all (Obj.under M)=true) (x:D3) :
 K Γ (.yield 5) [.agg (P27 x b.o)] H=some (vb true,(H.set 2 (.var (e7h b (b.pick o x)))).set 3 (.var [.bool (b.pick o x).isSome])):=by
 have hl2:2<H.length:=by omega
 have hl3:3<H.length:=by omega
 have hl4:4<H.length:=by omega
 have hl5:5<H.length:=by omega
 have hm2:2<M:=by omega
 have hm3:3<M:=by omega
 have hm4:4<M:=by omega
 have hm5:5<M:=by omega
 rw [c0y]
 obtain ⟨bz,hbz⟩:∃ x,Obj.loop .busy none (e8c b) [22] e6y e6z=x:=⟨_,rfl⟩
 have hbu (n:Nat):Obj.under (n+6) bz=true:=by subst hbz;simp [e8c,Obj.under,go_sem]
 have hob {β:Type} (f:List (Nat × V)->List Nat->AC->AC->Option β):b2i (some bz) f=f (e8c b) [22] e6y e6z:=by subst hbz;rfl
 have hB2:(H.set 5 bz)[2]?=some (.var (e7h b o)):=by rw [a5B _ _ _ _ (by decide),h2]
 have hB3:(H.set 5 bz)[3]?=some (.var [.bool o.isSome]):=by rw [a5B _ _ _ _ (by decide),h3]
 have hB4:(H.set 5 bz)[4]?=some (.var [.fn (.fn 310) [] [] []]):=by rw [a5B _ _ _ _ (by decide),h4]
 have hB5:(H.set 5 bz)[5]?=some bz:=b1c _ _ _ hl5
 have hC3 (v:Obj):((H.set 5 bz).set 2 v)[3]?=some (.var [.bool o.isSome]):=by rw [a5B _ _ _ _ (by decide),hB3]
 have hC5 (v w:Obj):(((H.set 5 bz).set 2 v).set 3 w)[5]?=some bz:=by rw [a5B _ _ _ _ (by decide),a5B _ _ _ _ (by decide),hB5]
 have hBu:(H.set 5 bz).all (Obj.under M)=true:=a6R _ _ _ _ hu (by rw [show M=(M - 6)+6 by omega];exact hbu _)
 have hsb (v w:Obj):=f2l H 5 2 3 bz v w _ (by decide) (by decide) h5
 have hs0:=f2k H 5 bz _ h5
 have hua (y:D3) (c:Bool):((H.set 2 (.var (P27 y b.o))).set 3 (.var [.bool c])).all (Obj.under M)=true:=a6R _ _ _ _ (a6R _ _ _ _ hu (by simp [go_sem])) (by simp [go_sem])
 simp only [e8c] at h5 hob hsb hs0 hbz ⊢
 cases o with
 | none =>
  simp only [PBook.pick,e7h,Option.isSome_some,Option.isSome_none] at *
  (simp only [go_sem,simprocAttr,h5,e7E,e7F,hbz,hob,hn,a0E,hl2,hl3,hl4,hl5,hm2,hm3,hm4,hm5,hB2,hB3,hB4,hC3,hC5,hsb,hua,hBu,hu,a0Q];repeat' (first|((first|refine brY ?_|refine brN ?_|refine brA ?_|refine brD ?_|refine brF ?_|((first|apply a0k|apply a0j);(· intro h;simp only [go_sem,simprocAttr,a0p h,h5,e7E,e7F,hbz,hob,hn,a0E,hl2,hl3,hl4,hl5,hm2,hm3,hm4,hm5,hB2,hB3,hB4,hC3,hC5,hsb,hua,hBu,hu,a0Q];exact rfl)));(try simp only [go_sem,simprocAttr,h5,e7E,e7F,hbz,hob,hn,a0E,hl2,hl3,hl4,hl5,hm2,hm3,hm4,hm5,hB2,hB3,hB4,hC3,hC5,hsb,hua,hBu,hu,a0Q]))|((first|apply a0e|apply d7E|apply a0a)<;>intro h<;>(try simp only [go_sem,simprocAttr,h,h5,e7E,e7F,hbz,hob,hn,a0E,hl2,hl3,hl4,hl5,hm2,hm3,hm4,hm5,hB2,hB3,hB4,hC3,hC5,hsb,hua,hBu,hu,a0Q]))))
 | some y =>
  have hK:=f2g (Γ:=Γ) b hs x y
  simp only [PBook.pick] at *
  cases hc:b.better x y with
  | true =>
   rw [hc] at hK
   simp only [e7h,Option.isSome_some,if_true] at *
   (simp only [go_sem,simprocAttr,h5,e7E,e7F,hbz,hob,hn,a0E,hl2,hl3,hl4,hl5,hm2,hm3,hm4,hm5,hB2,hB3,hB4,hC3,hC5,hsb,hua,hBu,hu,hK,a0Q];repeat' (first|((first|refine brY ?_|refine brN ?_|refine brA ?_|refine brD ?_|refine brF ?_|((first|apply a0k|apply a0j);(· intro h;simp only [go_sem,simprocAttr,a0p h,h5,e7E,e7F,hbz,hob,hn,a0E,hl2,hl3,hl4,hl5,hm2,hm3,hm4,hm5,hB2,hB3,hB4,hC3,hC5,hsb,hua,hBu,hu,hK,a0Q];exact rfl)));(try simp only [go_sem,simprocAttr,h5,e7E,e7F,hbz,hob,hn,a0E,hl2,hl3,hl4,hl5,hm2,hm3,hm4,hm5,hB2,hB3,hB4,hC3,hC5,hsb,hua,hBu,hu,hK,a0Q]))|((first|apply a0e|apply d7E|apply a0a)<;>intro h<;>(try simp only [go_sem,simprocAttr,h,h5,e7E,e7F,hbz,hob,hn,a0E,hl2,hl3,hl4,hl5,hm2,hm3,hm4,hm5,hB2,hB3,hB4,hC3,hC5,hsb,hua,hBu,hu,hK,a0Q]))))
   | false =>
   rw [hc] at hK
   have e2:=b1j _ _ _ h2
   have e3:=b1j _ _ _ h3
   simp only [e7h,Option.isSome_some,Bool.false_eq_true,if_false] at *
   rw [e2,e3]
   (simp only [go_sem,simprocAttr,h5,e7E,e7F,hbz,hob,hn,a0E,hl2,hl3,hl4,hl5,hm2,hm3,hm4,hm5,hB2,hB3,hB4,hB5,hs0,hua,hBu,hu,hK,a0Q];repeat' (first|((first|refine brY ?_|refine brN ?_|refine brA ?_|refine brD ?_|refine brF ?_|((first|apply a0k|apply a0j);(· intro h;simp only [go_sem,simprocAttr,a0p h,h5,e7E,e7F,hbz,hob,hn,a0E,hl2,hl3,hl4,hl5,hm2,hm3,hm4,hm5,hB2,hB3,hB4,hB5,hs0,hua,hBu,hu,hK,a0Q];exact rfl)));(try simp only [go_sem,simprocAttr,h5,e7E,e7F,hbz,hob,hn,a0E,hl2,hl3,hl4,hl5,hm2,hm3,hm4,hm5,hB2,hB3,hB4,hB5,hs0,hua,hBu,hu,hK,a0Q]))|((first|apply a0e|apply d7E|apply a0a)<;>intro h<;>(try simp only [go_sem,simprocAttr,h,h5,e7E,e7F,hbz,hob,hn,a0E,hl2,hl3,hl4,hl5,hm2,hm3,hm4,hm5,hB2,hB3,hB4,hB5,hs0,hua,hBu,hu,hK,a0Q]))))
theorem e8o (b:PBook) (ts:List D3):(e7l b ts).all (Obj.under 6)=true:=by
 cases h:b.e7x ts<;>simp [e7l,e8c,h,go_sem]
theorem f3L (b:PBook) (hs:PSane b):YieldsP Γ b (e7l b) 6 5 where
 yl:=by decide
 len:=fun _=>rfl
 und:=e8o b
 yield:=fun ts x fr hfr=>by
  have h:=f2T (Γ:=Γ) b hs (e7l b ts++fr) (6+fr.length) (b.e7x ts) (by simp [e7l];omega) (by omega) rfl rfl rfl rfl (by rw [List.all_append,a0Q _ 6 _ (e8o b ts),hfr];rfl) x
  rw [h]
  simp only [e7l,f0R]
  rfl
theorem f2Q (b:PBook):K Γ (.fn 287) [.agg b.o] []=some (.sc (.fn (.fn 311) [] [] [.eptr b.o 0]),[]):=by
 rw [K_fn P04.f287 _ _ rfl]
 (simp only [go_sem,simprocAttr,e5N];repeat' (first|((first|refine brY ?_|refine brN ?_|refine brA ?_|refine brD ?_|refine brF ?_|((first|apply a0k|apply a0j);(· intro h;simp only [go_sem,simprocAttr,a0p h,e5N];exact rfl)));(try simp only [go_sem,simprocAttr,e5N]))|((first|apply a0e|apply d7E|apply a0a)<;>intro h<;>(try simp only [go_sem,simprocAttr,h,e5N]))))
theorem f3J:K Γ (.fn 286) [] []=some (.agg [.fn (.fn 310) [] [] []],[]):=by
 rw [K_fn P04.f286 _ _ rfl]
 (simp only [go_sem,simprocAttr,e6I];repeat' (first|((first|refine brY ?_|refine brN ?_|refine brA ?_|refine brD ?_|refine brF ?_|((first|apply a0k|apply a0j);(· intro h;simp only [go_sem,simprocAttr,a0p h,e6I];exact rfl)));(try simp only [go_sem,simprocAttr,e6I]))|((first|apply a0e|apply d7E|apply a0a)<;>intro h<;>(try simp only [go_sem,simprocAttr,h,e6I]))))
theorem f2S (b:PBook) [hb:b.Fits] (hs:PSane b):K Γ (.fn 311) [.sc (.fn (.yield 5) [] [] []),.sc (.eptr b.o 0)] (e7l b [])=some (.tup [],e7l b b.plans):=by
 have hF:=(f3L (Γ:=Γ) b hs).frame [.var [.fn (.yield 5) [] [] []],.var [layF b 6 7]] (by simp [go_sem])
 have hL:=f3h (Γ:=Γ) b hs 5 6 7 b.rehs.length 0 e6u _ _ hF (fun ts=>rfl) (fun ts=>rfl) (by omega) (fun i day hi _=>e8M i day hi) []
 rw [List.nil_append] at hL
 have hpl:b.e6w b.rehs.length 0 e6u=b.plans:=rfl
 have hu0:=e8o b []
 have hu1:=e8o b b.plans
 have hl0:(e7l b []).length=6:=rfl
 have hl1:(e7l b b.plans).length=6:=rfl
 have ht1:(e7l b b.plans).take 6=e7l b b.plans:=rfl
 have huc:(e6u.c:List C)=[ci 9,ci 9,ci 9]:=rfl
 rw [hpl,huc] at hL
 change K Γ (.fn 320) [_,vi 0,_,_,_] _=_ at hL
 simp only [e7l,e8c,List.cons_append,List.nil_append] at hL hu0 hu1 ⊢
 rw [K_fn P04.f311 _ _ rfl]
 (simp only [go_sem,simprocAttr,e5F,hu0,hu1,hL];repeat' (first|((first|refine brY ?_|refine brN ?_|refine brA ?_|refine brD ?_|refine brF ?_|((first|apply a0k|apply a0j);(· intro h;simp only [go_sem,simprocAttr,a0p h,e5F,hu0,hu1,hL];exact rfl)));(try simp only [go_sem,simprocAttr,e5F,hu0,hu1,hL]))|((first|apply a0e|apply d7E|apply a0a)<;>intro h<;>(try simp only [go_sem,simprocAttr,h,e5F,hu0,hu1,hL]))))
end
def PBook.best (b:PBook):Option D3:=b.e7x b.plans
def PBook.plan (b:PBook):List Int × Int:=if b.err true=0 then (match b.best with|some x=>(x.l.take b.rehs.length,0)|none=>([],4)) else ([],b.err true)
def PBook.b2o (b:PBook):SK:=if b.err true=0 then (match b.best with|some _=>if b.rehs.length≠0 then .full else .shared|none=>.nil) else .nil
section
variable {Γ:Env} [P04 Γ] [G04 Γ] [GCo Γ] [GPr Γ]
theorem e5z:Z24.length=24:=rfl
theorem e8Z (x:D3) (b:PBook) (b':Nat) (h:List Obj) (l:List (List C × List C)):frzL b' h 63 (P27 x (P24 b (.imap true false l)))=some (P27 x (P24 b (.imap true false l))):=rfl
theorem f1n (x:D3) (b:PBook) (m:C) (n:Nat) (hn:n<=3):chunks (P27 x (P24 b m)) 0 1 n=some (nums (x.l.take n)):=by
 have:n=0\/n=1\/n=2\/n=3:=by omega
 rcases this with rfl|rfl|rfl|rfl<;>rfl
theorem f1h (b:PBook) [hb:b.Fits]:K Γ (.fn 249) [.agg b.c] []=some (.tup [.sc (.sl b.b2o 1 (nums b.plan.1)),vi b.plan.2],[]):=by
 obtain ⟨cs,ha,hcs⟩:=e7S (Γ:=Γ) b true
 by_cases he:b.err true=0
 ·obtain ⟨hv, -, -⟩:=e7s he
  have hs:=e6h hv
  have hr3:=hs.r3
  rw [if_pos he] at hcs
  subst hcs
  rw [he] at ha
  have hpl:=f2Q (Γ:=Γ) b
  have hmo:=f3J (Γ:=Γ)
  have hW:=f2S (Γ:=Γ) b hs
  have hbo:b.e7x b.plans=b.best:=rfl
  have hb0:b.e7x []=none:=rfl
  simp only [e7l,e8c,hbo,hb0,e7h,Z27,Z24,List.cons_append,List.nil_append,Option.isSome_none] at hW
  simp only [PBook.plan,PBook.b2o,if_pos he]
  cases hB:b.best with
  | none =>
   simp only [hB,Option.isSome_none] at hW
   rw [K_fn P04.f249 _ _ rfl]
   (simp only [go_sem,simprocAttr,e5p,ha,hpl,hmo,hW,nums,List.length_map,List.map_nil];repeat' (first|((first|refine brY ?_|refine brN ?_|refine brA ?_|refine brD ?_|refine brF ?_|((first|apply a0k|apply a0j);(· intro h;simp only [go_sem,simprocAttr,a0p h,e5p,ha,hpl,hmo,hW,nums,List.length_map,List.map_nil];exact rfl)));(try simp only [go_sem,simprocAttr,e5p,ha,hpl,hmo,hW,nums,List.length_map,List.map_nil]))|((first|apply a0e|apply d7E|apply a0a)<;>intro h<;>(try simp only [go_sem,simprocAttr,h,e5p,ha,hpl,hmo,hW,nums,List.length_map,List.map_nil]))))
  | some x =>
   simp only [hB,Option.isSome_some] at hW
   have hsl:a8k 3 1 (.sc (.ptr 2 0)) none (some (vi b.rehs.length)) (some (vi b.rehs.length))=some (.msl 2 0 b.rehs.length b.rehs.length 1):=by
    have:b.rehs.length=0\/b.rehs.length=1\/b.rehs.length=2\/b.rehs.length=3:=by omega
    rcases this with h|h|h|h<;>rw [h]<;>rfl
   have hch:=f1n x b (.imap true false (encB b.e7q)) b.rehs.length hr3
   rw [K_fn P04.f249 _ _ rfl]
   (simp only [go_sem,simprocAttr,e5p,ha,hpl,hmo,hW,hsl,hch,e8Z,List.length_map];repeat' (first|((first|refine brY ?_|refine brN ?_|refine brA ?_|refine brD ?_|refine brF ?_|((first|apply a0k|apply a0j);(· intro h;simp only [go_sem,simprocAttr,a0p h,e5p,ha,hpl,hmo,hW,hsl,hch,e8Z,List.length_map];exact rfl)));(try simp only [go_sem,simprocAttr,e5p,ha,hpl,hmo,hW,hsl,hch,e8Z,List.length_map]))|((first|apply a0e|apply d7E|apply a0a)<;>intro h<;>(try simp only [go_sem,simprocAttr,h,e5p,ha,hpl,hmo,hW,hsl,hch,e8Z,List.length_map]))))
 ·have hd:decide (b.err true=0)=false:=decide_eq_false he
  rw [if_neg he] at hcs
  subst hcs
  simp only [PBook.plan,PBook.b2o,if_neg he]
  rw [K_fn P04.f249 _ _ rfl]
  (simp only [go_sem,simprocAttr,e5p,ha,e5y,e5z,hd,nums,List.map_nil];repeat' (first|((first|refine brY ?_|refine brN ?_|refine brA ?_|refine brD ?_|refine brF ?_|((first|apply a0k|apply a0j);(· intro h;simp only [go_sem,simprocAttr,a0p h,e5p,ha,e5y,e5z,hd,nums,List.map_nil];exact rfl)));(try simp only [go_sem,simprocAttr,e5p,ha,e5y,e5z,hd,nums,List.map_nil]))|((first|apply a0e|apply d7E|apply a0a)<;>intro h<;>(try simp only [go_sem,simprocAttr,h,e5p,ha,e5y,e5z,hd,nums,List.map_nil]))))
end
end Go.Pm.St
namespace Go.Pm.St
open Ac
def PBook.kept (b:PBook) (d:Int):List Int × Int:=if b.err (b.a2O d)=0 then (b.e5i d,0) else ([],b.err (b.a2O d))
def PBook.may (b:PBook) (l:List Int):Bool × Int:=if b.err true=0 then (decide (l.length=b.rehs.length)&&b.a4k (b.e7j l),0) else (false,b.err true)
def PBook.e8C (b:PBook) (l:List Int):Int × Int:=if b.err true=0 then (if decide (l.length=b.rehs.length)&&b.a4k (b.e7j l) then (b.keeps (b.e7j l),0) else (0,101)) else (0,b.err true)
def PBook.e8f (b:PBook) (r:Int):List Int × Int:=if b.err (b.e8H r)=0 then (b.alone r.toNat,0) else ([],b.err (b.e8H r))
def PBook.e6F (b:PBook):Nat->List Int
 | 0=>[]
 | j+1=>if (b.alone j).length=0 then b.e6F j++[(j:Int)] else b.e6F j
def PBook.never (b:PBook):List Int × Int:=if b.err true=0 then (b.e6F b.rehs.length,0) else ([],b.err true)
theorem e9W (b:PBook):∀ j,(b.e6F j).length<=j
 | 0=>Nat.le_refl 0
 | j+1=>by
  have:=e9W b j
  simp only [PBook.e6F]
  split
  ·simp;omega
  ·omega
section
variable {Γ:Env} [P04 Γ] [G04 Γ] [GCo Γ] [GPr Γ]
theorem e9Q (b:PBook) [hb:b.Fits] (d:Int):K Γ (.fn 238) [.agg b.c,vi d] []=some (.tup [.sc (.sl (kU (b.kept d).1) 1 (nums (b.kept d).1)),vi (b.kept d).2],[]):=by
 obtain ⟨cs,ha,hcs⟩:=e7S (Γ:=Γ) b (b.a2O d)
 by_cases he:b.err (b.a2O d)=0
 ·obtain ⟨hv, -, -⟩:=e7s he
  have hk:=e9n (Γ:=Γ) b (e6h hv) d
  rw [if_pos he] at hcs
  subst hcs
  rw [he] at ha
  simp only [PBook.kept,if_pos he]
  rw [K_fn P04.f238 _ _ rfl]
  (simp only [go_sem,simprocAttr,e5L,ha,hk];repeat' (first|((first|refine brY ?_|refine brN ?_|refine brA ?_|refine brD ?_|refine brF ?_|((first|apply a0k|apply a0j);(· intro h;simp only [go_sem,simprocAttr,a0p h,e5L,ha,hk];exact rfl)));(try simp only [go_sem,simprocAttr,e5L,ha,hk]))|((first|apply a0e|apply d7E|apply a0a)<;>intro h<;>(try simp only [go_sem,simprocAttr,h,e5L,ha,hk]))))
 ·have hd:decide (b.err (b.a2O d)=0)=false:=decide_eq_false he
  rw [if_neg he] at hcs
  subst hcs
  simp only [PBook.kept,if_neg he]
  rw [K_fn P04.f238 _ _ rfl]
  (simp only [go_sem,simprocAttr,e5L,ha,e5y,e5z,hd,nums,kU,List.map_nil];repeat' (first|((first|refine brY ?_|refine brN ?_|refine brA ?_|refine brD ?_|refine brF ?_|((first|apply a0k|apply a0j);(· intro h;simp only [go_sem,simprocAttr,a0p h,e5L,ha,e5y,e5z,hd,nums,kU,List.map_nil];exact rfl)));(try simp only [go_sem,simprocAttr,e5L,ha,e5y,e5z,hd,nums,kU,List.map_nil]))|((first|apply a0e|apply d7E|apply a0a)<;>intro h<;>(try simp only [go_sem,simprocAttr,h,e5L,ha,e5y,e5z,hd,nums,kU,List.map_nil]))))
theorem f4z (b:PBook) [hb:b.Fits] (k:SK) (l:List Int) (hl:l.length<=9223372036854775807):K Γ (.fn 245) [.agg b.c,.sc (.sl k 1 (nums l))] []=some (.tup [vb (b.may l).1,vi (b.may l).2],[]):=by
 obtain ⟨cs,ha,hcs⟩:=e7S (Γ:=Γ) b true
 by_cases he:b.err true=0
 ·obtain ⟨hv, -, -⟩:=e7s he
  have hs:=e6h hv
  have hL:=f1V (Γ:=Γ) b hs k l hl
  have hP:=f0i (Γ:=Γ) b hs (b.e7j l) (f0s b l)
  rw [if_pos he] at hcs
  subst hcs
  rw [he] at ha
  simp only [PBook.may,if_pos he]
  cases c1:decide (l.length=b.rehs.length) with
  | false =>
   rw [c1] at hL
   rw [K_fn P04.f245 _ _ rfl]
   (simp only [go_sem,simprocAttr,e5u,ha,hL];repeat' (first|((first|refine brY ?_|refine brN ?_|refine brA ?_|refine brD ?_|refine brF ?_|((first|apply a0k|apply a0j);(· intro h;simp only [go_sem,simprocAttr,a0p h,e5u,ha,hL];exact rfl)));(try simp only [go_sem,simprocAttr,e5u,ha,hL]))|((first|apply a0e|apply d7E|apply a0a)<;>intro h<;>(try simp only [go_sem,simprocAttr,h,e5u,ha,hL]))))
   try rfl
  | true =>
   rw [c1] at hL
   rw [K_fn P04.f245 _ _ rfl]
   (simp only [go_sem,simprocAttr,e5u,ha,hL,hP];repeat' (first|((first|refine brY ?_|refine brN ?_|refine brA ?_|refine brD ?_|refine brF ?_|((first|apply a0k|apply a0j);(· intro h;simp only [go_sem,simprocAttr,a0p h,e5u,ha,hL,hP];exact rfl)));(try simp only [go_sem,simprocAttr,e5u,ha,hL,hP]))|((first|apply a0e|apply d7E|apply a0a)<;>intro h<;>(try simp only [go_sem,simprocAttr,h,e5u,ha,hL,hP]))))
   try rfl
 ·have hd:decide (b.err true=0)=false:=decide_eq_false he
  rw [if_neg he] at hcs
  subst hcs
  simp only [PBook.may,if_neg he]
  rw [K_fn P04.f245 _ _ rfl]
  (simp only [go_sem,simprocAttr,e5u,ha,e5y,e5z,hd];repeat' (first|((first|refine brY ?_|refine brN ?_|refine brA ?_|refine brD ?_|refine brF ?_|((first|apply a0k|apply a0j);(· intro h;simp only [go_sem,simprocAttr,a0p h,e5u,ha,e5y,e5z,hd];exact rfl)));(try simp only [go_sem,simprocAttr,e5u,ha,e5y,e5z,hd]))|((first|apply a0e|apply d7E|apply a0a)<;>intro h<;>(try simp only [go_sem,simprocAttr,h,e5u,ha,e5y,e5z,hd]))))
theorem f2L (b:PBook) [hb:b.Fits] (k:SK) (l:List Int) (hl:l.length<=9223372036854775807):K Γ (.fn 247) [.agg b.c,.sc (.sl k 1 (nums l))] []=some (.tup [vi (b.e8C l).1,vi (b.e8C l).2],[]):=by
 obtain ⟨cs,ha,hcs⟩:=e7S (Γ:=Γ) b true
 by_cases he:b.err true=0
 ·obtain ⟨hv, -, -⟩:=e7s he
  have hs:=e6h hv
  have hL:=f1V (Γ:=Γ) b hs k l hl
  have hP:=f0i (Γ:=Γ) b hs (b.e7j l) (f0s b l)
  have hK:=e9O (Γ:=Γ) b hs (b.e7j l)
  rw [if_pos he] at hcs
  subst hcs
  rw [he] at ha
  simp only [PBook.e8C,if_pos he]
  cases c1:decide (l.length=b.rehs.length) with
  | false =>
   rw [c1] at hL
   simp only [Bool.false_and,Bool.false_eq_true,if_false]
   rw [K_fn P04.f247 _ _ rfl]
   (simp only [go_sem,simprocAttr,e5b,ha,hL];repeat' (first|((first|refine brY ?_|refine brN ?_|refine brA ?_|refine brD ?_|refine brF ?_|((first|apply a0k|apply a0j);(· intro h;simp only [go_sem,simprocAttr,a0p h,e5b,ha,hL];exact rfl)));(try simp only [go_sem,simprocAttr,e5b,ha,hL]))|((first|apply a0e|apply d7E|apply a0a)<;>intro h<;>(try simp only [go_sem,simprocAttr,h,e5b,ha,hL]))))
   try rfl
  | true =>
   rw [c1] at hL
   cases c2:b.a4k (b.e7j l) with
   | false =>
    rw [c2] at hP
    simp only [Bool.and_false,Bool.false_eq_true,if_false]
    rw [K_fn P04.f247 _ _ rfl]
    (simp only [go_sem,simprocAttr,e5b,ha,hL,hP];repeat' (first|((first|refine brY ?_|refine brN ?_|refine brA ?_|refine brD ?_|refine brF ?_|((first|apply a0k|apply a0j);(· intro h;simp only [go_sem,simprocAttr,a0p h,e5b,ha,hL,hP];exact rfl)));(try simp only [go_sem,simprocAttr,e5b,ha,hL,hP]))|((first|apply a0e|apply d7E|apply a0a)<;>intro h<;>(try simp only [go_sem,simprocAttr,h,e5b,ha,hL,hP]))))
    try rfl
   | true =>
    rw [c2] at hP
    simp only [Bool.and_self,if_true]
    rw [K_fn P04.f247 _ _ rfl]
    (simp only [go_sem,simprocAttr,e5b,ha,hL,hP,hK];repeat' (first|((first|refine brY ?_|refine brN ?_|refine brA ?_|refine brD ?_|refine brF ?_|((first|apply a0k|apply a0j);(· intro h;simp only [go_sem,simprocAttr,a0p h,e5b,ha,hL,hP,hK];exact rfl)));(try simp only [go_sem,simprocAttr,e5b,ha,hL,hP,hK]))|((first|apply a0e|apply d7E|apply a0a)<;>intro h<;>(try simp only [go_sem,simprocAttr,h,e5b,ha,hL,hP,hK]))))
    try rfl
 ·have hd:decide (b.err true=0)=false:=decide_eq_false he
  rw [if_neg he] at hcs
  subst hcs
  simp only [PBook.e8C,if_neg he]
  rw [K_fn P04.f247 _ _ rfl]
  (simp only [go_sem,simprocAttr,e5b,ha,e5y,e5z,hd];repeat' (first|((first|refine brY ?_|refine brN ?_|refine brA ?_|refine brD ?_|refine brF ?_|((first|apply a0k|apply a0j);(· intro h;simp only [go_sem,simprocAttr,a0p h,e5b,ha,e5y,e5z,hd];exact rfl)));(try simp only [go_sem,simprocAttr,e5b,ha,e5y,e5z,hd]))|((first|apply a0e|apply d7E|apply a0a)<;>intro h<;>(try simp only [go_sem,simprocAttr,h,e5b,ha,e5y,e5z,hd]))))
theorem f2K (b:PBook) [hb:b.Fits] (r:Int):K Γ (.fn 240) [.agg b.c,vi r] []=some (.tup [.sc (.sl (kU (b.e8f r).1) 1 (nums (b.e8f r).1)),vi (b.e8f r).2],[]):=by
 obtain ⟨cs,ha,hcs⟩:=e7S (Γ:=Γ) b (b.e8H r)
 by_cases he:b.err (b.e8H r)=0
 ·obtain ⟨hv,hr, -⟩:=e7s he
  rw [PBook.e8H,within_iff] at hr
  obtain ⟨n,rfl⟩:∃ n:Nat,r=n:=⟨r.toNat,by omega⟩
  have hk:=f0G (Γ:=Γ) b (e6h hv) n (by omega)
  rw [if_pos he] at hcs
  subst hcs
  rw [he] at ha
  simp only [PBook.e8f,if_pos he,Int.toNat_natCast]
  rw [K_fn P04.f240 _ _ rfl]
  (simp only [go_sem,simprocAttr,e5B,ha,hk];repeat' (first|((first|refine brY ?_|refine brN ?_|refine brA ?_|refine brD ?_|refine brF ?_|((first|apply a0k|apply a0j);(· intro h;simp only [go_sem,simprocAttr,a0p h,e5B,ha,hk];exact rfl)));(try simp only [go_sem,simprocAttr,e5B,ha,hk]))|((first|apply a0e|apply d7E|apply a0a)<;>intro h<;>(try simp only [go_sem,simprocAttr,h,e5B,ha,hk]))))
 ·have hd:decide (b.err (b.e8H r)=0)=false:=decide_eq_false he
  rw [if_neg he] at hcs
  subst hcs
  simp only [PBook.e8f,if_neg he]
  rw [K_fn P04.f240 _ _ rfl]
  (simp only [go_sem,simprocAttr,e5B,ha,e5y,e5z,hd,nums,kU,List.map_nil];repeat' (first|((first|refine brY ?_|refine brN ?_|refine brA ?_|refine brD ?_|refine brF ?_|((first|apply a0k|apply a0j);(· intro h;simp only [go_sem,simprocAttr,a0p h,e5B,ha,e5y,e5z,hd,nums,kU,List.map_nil];exact rfl)));(try simp only [go_sem,simprocAttr,e5B,ha,e5y,e5z,hd,nums,kU,List.map_nil]))|((first|apply a0e|apply d7E|apply a0a)<;>intro h<;>(try simp only [go_sem,simprocAttr,h,e5B,ha,e5y,e5z,hd,nums,kU,List.map_nil]))))
theorem f3D (b:PBook) [hb:b.Fits] (hs:PSane b) {β:Type} (Q:Ex->St->Option β) :
 E Γ e8b ⟨[(4,.sc (.ptr 1 0)),(6,.sc (.sl .nil 1 [])),(18,vi b.rehs.length),(19,vi 0)],[.var b.c,.var b.o]⟩ Q =
 Q (.exit 0) ⟨[(4,.sc (.ptr 1 0)),(6,.sc (ownC 1 (nums (b.e6F b.rehs.length)))),(18,vi b.rehs.length),(19,vi b.rehs.length),(20,vb false)],[.var b.c,.var b.o]⟩:=by
 have h3:=hs.r3
 refine (a4Q (fun j=>⟨[(4,.sc (.ptr 1 0)),(6,.sc (ownC 1 (nums (b.e6F j)))),(18,vi b.rehs.length),(19,vi j)],[.var b.c,.var b.o]⟩) b.rehs
  (.exit 0,⟨[(4,.sc (.ptr 1 0)),(6,.sc (ownC 1 (nums (b.e6F b.rehs.length)))),(18,vi b.rehs.length),(19,vi b.rehs.length),(20,vb false)],[.var b.c,.var b.o]⟩) Q ?_ ?_ ?_).trans ?_
 ·rfl
 ·intro j x hx
  have hj:=(List.getElem?_eq_some_iff.1 hx).1
  have hlt:=decide_eq_true (show (j:Int)<b.rehs.length by omega)
  have hjw:IntKind.i64.wrap ((j:Int)+1)=j+1:=wrap_i64 (by omega) (by omega)
  have hk:=e9W b j
  have happ:=a2K 1 (nums (b.e6F j)) .full [ci j] (by rw [e4t];simp only [room];omega)
  have hn:nums (b.e6F j)++[[ci j]]=nums (b.e6F j++[(j:Int)]):=by simp [nums]
  rw [hn] at happ
  have hP:=f0G (Γ:=Γ) b hs j hj
  simp only [PBook.e6F]
  by_cases hg:(b.alone j).length=0
  ·have hown:C.own false 1 (nums (b.e6F j++[(j:Int)]))=ownC 1 (nums (b.e6F j++[(j:Int)])):=f0E _ _
   have d0:decide (((b.alone j).length:Int)=0)=true:=decide_eq_true (by omega)
   rw [if_pos hg]
   (simp only [go_sem,simprocAttr,e5g,hlt,hjw,hP,d0,happ,e4t];repeat' (first|((first|refine brY ?_|refine brN ?_|refine brA ?_|refine brD ?_|refine brF ?_|((first|apply a0k|apply a0j);(· intro h;simp only [go_sem,simprocAttr,a0p h,e5g,hlt,hjw,hP,d0,happ,e4t];exact rfl)));(try simp only [go_sem,simprocAttr,e5g,hlt,hjw,hP,d0,happ,e4t]))|((first|apply a0e|apply d7E|apply a0a)<;>intro h<;>(try simp only [go_sem,simprocAttr,h,e5g,hlt,hjw,hP,d0,happ,e4t]))))
   try rw [hown]
   try rfl
  ·have d0:decide (((b.alone j).length:Int)=0)=false:=decide_eq_false (by omega)
   rw [if_neg hg]
   (simp only [go_sem,simprocAttr,e5g,hlt,hjw,hP,d0,e4t];repeat' (first|((first|refine brY ?_|refine brN ?_|refine brA ?_|refine brD ?_|refine brF ?_|((first|apply a0k|apply a0j);(· intro h;simp only [go_sem,simprocAttr,a0p h,e5g,hlt,hjw,hP,d0,e4t];exact rfl)));(try simp only [go_sem,simprocAttr,e5g,hlt,hjw,hP,d0,e4t]))|((first|apply a0e|apply d7E|apply a0a)<;>intro h<;>(try simp only [go_sem,simprocAttr,h,e5g,hlt,hjw,hP,d0,e4t]))))
   try rfl
 ·have hlt:=decide_eq_false (show ¬ (b.rehs.length:Int)<b.rehs.length by omega)
  (simp only [go_sem,simprocAttr,e5g,hlt];repeat' (first|((first|refine brY ?_|refine brN ?_|refine brA ?_|refine brD ?_|refine brF ?_|((first|apply a0k|apply a0j);(· intro h;simp only [go_sem,simprocAttr,a0p h,e5g,hlt];exact rfl)));(try simp only [go_sem,simprocAttr,e5g,hlt]))|((first|apply a0e|apply d7E|apply a0a)<;>intro h<;>(try simp only [go_sem,simprocAttr,h,e5g,hlt]))))
  try rfl
 ·rfl
theorem f2M (b:PBook) [hb:b.Fits]:K Γ (.fn 242) [.agg b.c] []=some (.tup [.sc (.sl (kU b.never.1) 1 (nums b.never.1)),vi b.never.2],[]):=by
 obtain ⟨cs,ha,hcs⟩:=e7S (Γ:=Γ) b true
 by_cases he:b.err true=0
 ·obtain ⟨hv, -, -⟩:=e7s he
  have hL {β:Type} (Q:Ex->St->Option β):=f3D (Γ:=Γ) b (e6h hv) Q
  have hS:=e8t 1 (nums (b.e6F b.rehs.length)) (b.e6F b.rehs.length).length (e4t _)
  have hU:=e9d (b.e6F b.rehs.length)
  rw [hU,e9N] at hS
  rw [if_pos he] at hcs
  subst hcs
  rw [he] at ha
  simp only [PBook.never,if_pos he]
  rw [K_fn P04.f242 _ _ rfl]
  (simp only [go_sem,simprocAttr,e5C,ha,hL,hS,hU,e4t,List.length_map];repeat' (first|((first|refine brY ?_|refine brN ?_|refine brA ?_|refine brD ?_|refine brF ?_|((first|apply a0k|apply a0j);(· intro h;simp only [go_sem,simprocAttr,a0p h,e5C,ha,hL,hS,hU,e4t,List.length_map];exact rfl)));(try simp only [go_sem,simprocAttr,e5C,ha,hL,hS,hU,e4t,List.length_map]))|((first|apply a0e|apply d7E|apply a0a)<;>intro h<;>(try simp only [go_sem,simprocAttr,h,e5C,ha,hL,hS,hU,e4t,List.length_map]))))
 ·have hd:decide (b.err true=0)=false:=decide_eq_false he
  rw [if_neg he] at hcs
  subst hcs
  simp only [PBook.never,if_neg he]
  rw [K_fn P04.f242 _ _ rfl]
  (simp only [go_sem,simprocAttr,e5C,ha,e5y,e5z,hd,nums,kU,List.map_nil];repeat' (first|((first|refine brY ?_|refine brN ?_|refine brA ?_|refine brD ?_|refine brF ?_|((first|apply a0k|apply a0j);(· intro h;simp only [go_sem,simprocAttr,a0p h,e5C,ha,e5y,e5z,hd,nums,kU,List.map_nil];exact rfl)));(try simp only [go_sem,simprocAttr,e5C,ha,e5y,e5z,hd,nums,kU,List.map_nil]))|((first|apply a0e|apply d7E|apply a0a)<;>intro h<;>(try simp only [go_sem,simprocAttr,h,e5C,ha,e5y,e5z,hd,nums,kU,List.map_nil]))))
end
end Go.Pm.St
namespace Go.Pm.St
open Ac
def bedX (k:SK) (l:List Hear):CBook:=⟨4,5,3,0,⟨1,2⟩,⟨1,1⟩,.nil,[],2,k,l⟩
def e8x:Book:=⟨.full,[⟨10,10⟩,⟨10,11⟩,⟨12,12⟩],⟨3,3⟩,⟨4,5⟩,⟨4,4⟩,.full,[⟨1,0,1⟩,⟨0,1,1⟩,⟨1,0,0⟩,⟨0,1,0⟩],.nil,[],.nil,[]⟩
def prB (k:SK) (l:List Hear) (one other:Reh):PBook:=⟨bedX k l,e8x,.full,[0,2,3],.full,[one,other]⟩
def e8j (w:Int):Reh:=⟨0,1,w⟩
def e8l (f:Int):Reh:=⟨f,3,1⟩
def hr1:Hear:=⟨0,1,true⟩
def hr2:Hear:=⟨2,2,true⟩
def ownP:PBook:=prB .nil [] (e8j 1) (e8l 1)
def e8k:PBook:=prB .full [hr1] (e8j 1) (e8l 1)
def e9b:PBook:=prB .nil [] (e8j 1) (e8l 2)
def e9y:PBook:=prB .nil [] (e8j 2) (e8l 1)
def f6o:PBook:=prB .full [hr1,hr2] (e8j 1) (e8l 1)
theorem e8m (k:SK) (l:List Hear) (one other:Reh) (hl:l.length<=100):(prB k l one other).Fits :=
 ⟨⟨by simp [prB,bedX],by simp only [prB,bedX];omega⟩,⟨by simp [prB,e8x],by simp [prB,e8x],by simp [prB,e8x],by simp [prB,e8x]⟩,by simp [prB],by simp [prB],by simp [prB,e8x]⟩
instance:ownP.Fits:=e8m _ _ _ _ (by decide)
instance:e8k.Fits:=e8m _ _ _ _ (by decide)
instance:e9b.Fits:=e8m _ _ _ _ (by decide)
instance:e9y.Fits:=e8m _ _ _ _ (by decide)
instance:f6o.Fits:=e8m _ _ _ _ (by decide)
theorem f4C:ownP.kept 1=([0,1],0):=by decide +kernel
theorem f6r:ownP.may [0,1]=(true,0):=by decide +kernel
theorem f3T:e8k.e8C [0,2]=(3,0):=by decide +kernel
theorem f3S:e9y.e8f 0=([0],0):=by decide +kernel
theorem f2s:e9b.plan=([0,9],0):=by decide +kernel
theorem f1m:e8k.plan=([0,1],0):=by decide +kernel
theorem f3U:e9b.never=([1],0):=by decide +kernel
theorem f3V:(ownP.valid&&ownP.can)=true:=by decide +kernel
theorem f3W:ownP.valid=true:=by decide +kernel
theorem f0K {b:PBook} {l:List Int} (h:b.plan=(l,0)) (h2:b.rehs.length≠0):b.b2o=.full:=by
 by_cases he:b.err true=0
 ·simp only [PBook.plan,if_pos he] at h
  simp only [PBook.b2o,if_pos he]
  cases hb:b.best with
  | none=>rw [hb] at h;simp at h
  | some x=>simp [h2]
 ·simp only [PBook.plan,if_neg he] at h
  exact absurd (Prod.mk.inj h).2 he
section
variable {Γ:Env} [P04 Γ] [G04 Γ] [GCo Γ] [GPr Γ]
@[go_sem] theorem f7P (k:SK) (l:List Hear):K Γ (.fn 295) [.sc (.sl k 3 (l.map Hear.c))] []=some (.agg (bedX k l).c,[]):=by
 rw [K_fn P04.f295 _ _ rfl]
 (simp only [go_sem,simprocAttr,e6r];repeat' (first|((first|refine brY ?_|refine brN ?_|refine brA ?_|refine brD ?_|refine brF ?_|((first|apply a0k|apply a0j);(· intro h;simp only [go_sem,simprocAttr,a0p h,e6r];exact rfl)));(try simp only [go_sem,simprocAttr,e6r]))|((first|apply a0e|apply d7E|apply a0a)<;>intro h<;>(try simp only [go_sem,simprocAttr,h,e6r]))))
 rfl
@[go_sem] theorem f7w (w:Int):K Γ (.fn 260) [vi w] []=some (.agg (e8j w).c,[]):=by
 rw [K_fn P04.f260 _ _ rfl]
 (simp only [go_sem,simprocAttr,e5Z];repeat' (first|((first|refine brY ?_|refine brN ?_|refine brA ?_|refine brD ?_|refine brF ?_|((first|apply a0k|apply a0j);(· intro h;simp only [go_sem,simprocAttr,a0p h,e5Z];exact rfl)));(try simp only [go_sem,simprocAttr,e5Z]))|((first|apply a0e|apply d7E|apply a0a)<;>intro h<;>(try simp only [go_sem,simprocAttr,h,e5Z]))))
 rfl
@[go_sem] theorem f7x (w:Int):K Γ (.fn 261) [vi w] []=some (.agg (e8l w).c,[]):=by
 rw [K_fn P04.f261 _ _ rfl]
 (simp only [go_sem,simprocAttr,e6c];repeat' (first|((first|refine brY ?_|refine brN ?_|refine brA ?_|refine brD ?_|refine brF ?_|((first|apply a0k|apply a0j);(· intro h;simp only [go_sem,simprocAttr,a0p h,e6c];exact rfl)));(try simp only [go_sem,simprocAttr,e6c]))|((first|apply a0e|apply d7E|apply a0a)<;>intro h<;>(try simp only [go_sem,simprocAttr,h,e6c]))))
 rfl
@[go_sem] theorem f3i (k:SK) (l:List Hear) (one other:Reh):K Γ (.fn 262) [.sc (.sl k 3 (l.map Hear.c)),.agg one.c,.agg other.c] []=some (.agg (prB k l one other).c,[]):=by
 have hbx:(bedX k l).c=[ci 4,ci 5,ci 3,ci 0,ci 1,ci 2,ci 1,ci 1,.sl .nil 2 [],ci 2,.sl k 3 (l.map Hear.c)]:=rfl
 rw [K_fn P04.f262 _ _ rfl]
 (simp only [go_sem,simprocAttr,e6j,hbx];repeat' (first|((first|refine brY ?_|refine brN ?_|refine brA ?_|refine brD ?_|refine brF ?_|((first|apply a0k|apply a0j);(· intro h;simp only [go_sem,simprocAttr,a0p h,e6j,hbx];exact rfl)));(try simp only [go_sem,simprocAttr,e6j,hbx]))|((first|apply a0e|apply d7E|apply a0a)<;>intro h<;>(try simp only [go_sem,simprocAttr,h,e6j,hbx]))))
 try rfl
theorem e6v (one other:Reh):K Γ (.fn 262) [.sc (.sl .nil 3 []),.agg one.c,.agg other.c] []=some (.agg (prB .nil [] one other).c,[]):=f3i .nil [] one other
theorem f2e:K Γ (.fn 259) [] []=some (.agg ownP.c,[]):=by
 rw [K_fn P04.f259 _ _ rfl]
 (simp only [go_sem,simprocAttr,e6s,e6v];repeat' (first|((first|refine brY ?_|refine brN ?_|refine brA ?_|refine brD ?_|refine brF ?_|((first|apply a0k|apply a0j);(· intro h;simp only [go_sem,simprocAttr,a0p h,e6s,e6v];exact rfl)));(try simp only [go_sem,simprocAttr,e6s,e6v]))|((first|apply a0e|apply d7E|apply a0a)<;>intro h<;>(try simp only [go_sem,simprocAttr,h,e6s,e6v]))))
 rfl
theorem f0y:K Γ (.fn 264) [] []=some (.agg e8k.c,[]):=by
 have h:K Γ (.fn 262) [.sc (.sl .full 3 [[ci 0,ci 1,.bool true]]),.agg (e8j 1).c,.agg (e8l 1).c] []=some (.agg e8k.c,[]):=f3i .full [hr1] _ _
 rw [K_fn P04.f264 _ _ rfl]
 (simp only [go_sem,simprocAttr,e6b,h];repeat' (first|((first|refine brY ?_|refine brN ?_|refine brA ?_|refine brD ?_|refine brF ?_|((first|apply a0k|apply a0j);(· intro h;simp only [go_sem,simprocAttr,a0p h,e6b,h];exact rfl)));(try simp only [go_sem,simprocAttr,e6b,h]))|((first|apply a0e|apply d7E|apply a0a)<;>intro h<;>(try simp only [go_sem,simprocAttr,h,e6b,h]))))
 rfl
theorem f1f:K Γ (.fn 281) [] []=some (.agg e9b.c,[]):=by
 rw [K_fn P04.f281 _ _ rfl]
 (simp only [go_sem,simprocAttr,e6k,e6v];repeat' (first|((first|refine brY ?_|refine brN ?_|refine brA ?_|refine brD ?_|refine brF ?_|((first|apply a0k|apply a0j);(· intro h;simp only [go_sem,simprocAttr,a0p h,e6k,e6v];exact rfl)));(try simp only [go_sem,simprocAttr,e6k,e6v]))|((first|apply a0e|apply d7E|apply a0a)<;>intro h<;>(try simp only [go_sem,simprocAttr,h,e6k,e6v]))))
 rfl
theorem f0x:K Γ (.fn 280) [] []=some (.agg e9y.c,[]):=by
 rw [K_fn P04.f280 _ _ rfl]
 (simp only [go_sem,simprocAttr,e6a,e6v];repeat' (first|((first|refine brY ?_|refine brN ?_|refine brA ?_|refine brD ?_|refine brF ?_|((first|apply a0k|apply a0j);(· intro h;simp only [go_sem,simprocAttr,a0p h,e6a,e6v];exact rfl)));(try simp only [go_sem,simprocAttr,e6a,e6v]))|((first|apply a0e|apply d7E|apply a0a)<;>intro h<;>(try simp only [go_sem,simprocAttr,h,e6a,e6v]))))
 rfl
theorem f4O (k k':SK) (l m:List Int) (hl:l.length<=1000000) (hm:m.length<=1000000):K Γ (.fn 23) [.sc (.sl k 1 (nums l)),.sc (.sl k' 1 (nums m))] []=some (vb (decide (l=m)),[]):=c0w k k' l m hl hm
theorem f0h (k k':SK) (l:List Int) (hl:l.length<=1000000):K Γ (.fn 23) [.sc (.sl k 1 (nums l)),.sc (.sl k' 1 (nums l))] []=some (vb true,[]):=by
 rw [f4O k k' l l hl hl,decide_eq_true rfl]
@[go_sem] theorem f4G:K Γ (.fn 244) [] []=some (vb true,[]):=by
 have h1:=e9Q (Γ:=Γ) ownP 1
 have h2:=f4z (Γ:=Γ) ownP .full [0,1] (by decide)
 have h3:=f2L (Γ:=Γ) e8k .full [0,2] (by decide)
 have h4:=f2K (Γ:=Γ) e9y 0
 have h5:=f1h (Γ:=Γ) e9b
 have h6:=f1h (Γ:=Γ) e8k
 have h7:=f2M (Γ:=Γ) e9b
 have h8:=e9s (Γ:=Γ) ownP
 rw [f4C] at h1
 rw [f6r] at h2
 rw [f3T] at h3
 rw [f3S] at h4
 rw [f2s,f0K f2s (by decide)] at h5
 rw [f1m,f0K f1m (by decide)] at h6
 rw [f3U] at h7
 rw [f3V,f3W] at h8
 have e1:=fun k k'=>f0h (Γ:=Γ) k k' [0,1] (by decide)
 have e2:=fun k k'=>f0h (Γ:=Γ) k k' [0] (by decide)
 have e3:=fun k k'=>f0h (Γ:=Γ) k k' [0,9] (by decide)
 have e4:=fun k k'=>f0h (Γ:=Γ) k k' [1] (by decide)
 simp only [nums,List.map_cons,List.map_nil,kU] at h1 h2 h3 h4 h5 h6 h7 e1 e2 e3 e4
 rw [K_fn P04.f244 _ _ rfl]
 (simp only [go_sem,simprocAttr,e6m,f2e,f0y,f1f,f0x,h1,h2,h3,h4,h5,h6,h7,h8,e1,e2,e3,e4];repeat' ((first|refine brY ?_|refine brN ?_|refine brA ?_|refine brD ?_|refine brF ?_);(try simp only [go_sem,simprocAttr,e6m,f2e,f0y,f1f,f0x,h1,h2,h3,h4,h5,h6,h7,h8,e1,e2,e3,e4])))
end
end Go.Pm.St
namespace Go.Pm.St
open Ac
def Reh.draw (y:Reh) (bits:List Int) (i:Nat):Int:=if y.til - y.fr<turn (d8d bits i) (y.til - y.fr+2) then 9 else y.fr+turn (d8d bits i) (y.til - y.fr+2)
def PBook.f0p (b:PBook) (bits:List Int):Nat->List Int
 | 0=>[]
 | i+1=>match b.rehs[i]? with
  | some y=>b.f0p bits i++[y.draw bits i]
  | none=>b.f0p bits i
def PBook.drawn (b:PBook) (bits:List Int):List Int:=b.f0p bits b.rehs.length
@[go_sem] theorem PBook.c_19 (b:PBook):b.c[19]?=some (.sl b.st.kr 2 (b.st.rests.map Rest.c)):=nrfl rfl
@[go_sem] theorem PBook.c_8 (b:PBook):b.c[8]?=some (.sl b.cold.km 2 (b.cold.moves.map Move.c)):=nrfl rfl
section
variable {Γ:Env} [P04 Γ] [G04 Γ] [GCo Γ] [GPr Γ]
theorem f2i (b:PBook) [hb:b.Fits] (hs:PSane b) {β:Type} (Q:Ex->St->Option β) :
 E Γ e6M ⟨[(1,.sc (.ptr 0 0)),(3,vb true),(4,vi 0)],[.var b.c]⟩ Q=Q (.exit 0) ⟨[(1,.sc (.ptr 0 0)),(3,vb true),(4,vi b.sleeps.length),(95,vb false)],[.var b.c]⟩:=by
 have hs3:=hs.st.s3
 have hss:=hs.ss
 have hb5:=hs.cold.b1
 refine a4Q (fun i=>⟨[(1,.sc (.ptr 0 0)),(3,vb true),(4,vi i)],[.var b.c]⟩) b.sleeps (.exit 0,⟨[(1,.sc (.ptr 0 0)),(3,vb true),(4,vi b.sleeps.length),(95,vb false)],[.var b.c]⟩) Q rfl ?_ ?_
 ·intro i x hx
  have hlt':=(List.getElem?_eq_some_iff.1 hx).1
  have hlt:decide ((i:Int)<b.sleeps.length)=true:=decide_eq_true (by omega)
  have hiw:IntKind.i64.wrap ((i:Int)+1)=i+1:=wrap_i64 (by omega) (by omega)
  have hn:(nums b.sleeps)[i]?=some [ci x]:=by rw [e7n,hx];rfl
  have hw:IntKind.i64.wrap (b.cold.beds - 1)=b.cold.beds - 1:=wrap_i64 (by omega) (by omega)
  have hok:within x 0 (b.cold.beds - 1)=true:=within_iff.2 (by have:=hs.sl x (List.mem_of_getElem? hx);omega)
  (simp only [go_sem,simprocAttr,e5H,hn,hiw,hlt,hw,hok,e4t];repeat' ((first|refine brY ?_|refine brN ?_|refine brA ?_|refine brD ?_|refine brF ?_);(try simp only [go_sem,simprocAttr,e5H,hn,hiw,hlt,hw,hok,e4t])))
  rfl
 ·have hlt:decide ((b.sleeps.length:Int)<b.sleeps.length)=false:=decide_eq_false (by omega)
  (simp only [go_sem,simprocAttr,e5H,hlt,e4t];repeat' ((first|refine brY ?_|refine brN ?_|refine brA ?_|refine brD ?_|refine brF ?_);(try simp only [go_sem,simprocAttr,e5H,hlt,e4t])))
theorem f2j (b:PBook) [hb:b.Fits] (hs:PSane b) {β:Type} (Q:Ex->St->Option β) :
 E Γ e6N ⟨[(1,.sc (.ptr 0 0)),(3,vb true),(5,vi 0)],[.var b.c]⟩ Q=Q (.exit 2) ⟨[(1,.sc (.ptr 0 0)),(3,vb true),(5,vi b.rehs.length),(115,vb false)],[.var b.c]⟩:=by
 have hr3:=hs.r3
 refine a4Q (fun i=>⟨[(1,.sc (.ptr 0 0)),(3,vb true),(5,vi i)],[.var b.c]⟩) b.rehs (.exit 2,⟨[(1,.sc (.ptr 0 0)),(3,vb true),(5,vi b.rehs.length),(115,vb false)],[.var b.c]⟩) Q rfl ?_ ?_
 ·intro i x hx
  have hlt':=(List.getElem?_eq_some_iff.1 hx).1
  have hlt:decide ((i:Int)<b.rehs.length)=true:=decide_eq_true (by omega)
  have hiw:IntKind.i64.wrap ((i:Int)+1)=i+1:=wrap_i64 (by omega) (by omega)
  have hok:=hs.rh x (List.mem_of_getElem? hx)
  have k1:within x.fr 0 x.til=true:=within_iff.2 (by omega)
  have k2:decide (x.til<b.st.days.length)=true:=decide_eq_true (by omega)
  have k3:within x.wants 0 3=true:=within_iff.2 (by omega)
  (simp only [go_sem,simprocAttr,e5I,hx,hiw,hlt,k1,k2,k3,List.length_map];repeat' ((first|refine brY ?_|refine brN ?_|refine brA ?_|refine brD ?_|refine brF ?_);(try simp only [go_sem,simprocAttr,e5I,hx,hiw,hlt,k1,k2,k3,List.length_map])))
  rfl
 ·have hlt:decide ((b.rehs.length:Int)<b.rehs.length)=false:=decide_eq_false (by omega)
  (simp only [go_sem,simprocAttr,e5I,hlt,List.length_map];repeat' ((first|refine brY ?_|refine brN ?_|refine brA ?_|refine brD ?_|refine brF ?_);(try simp only [go_sem,simprocAttr,e5I,hlt,List.length_map])))
@[go_sem] theorem f7f (b:PBook) [hb:b.Fits]:K Γ (.fn 251) [.agg b.c] []=some (vb b.valid,[]):=by
 have hC:=f0F (Γ:=Γ) b
 cases hv:b.valid with
 | false =>
  rw [hv] at hC
  rw [K_fn P04.f251 _ _ rfl]
  (simp only [go_sem,simprocAttr,e6d,hC,e6M,e5H,e6N,e5I,a1J];repeat' ((first|refine brY ?_|refine brN ?_|refine brA ?_|refine brD ?_|refine brF ?_);(try simp only [go_sem,simprocAttr,e6d,hC,e6M,e5H,e6N,e5I,a1J])))
 | true =>
  have hs:=e6h hv
  have hcc:=e8D (Γ:=Γ) b.cold
  have hcs:=c9C (Γ:=Γ) b.st
  rw [e8s hv] at hcc
  rw [e9Y hv] at hcs
  rw [hv] at hC
  have e0 {β:Type} (Q:Ex->St->Option β):=f2i (Γ:=Γ) b hs Q
  have e1 {β:Type} (Q:Ex->St->Option β):=f2j (Γ:=Γ) b hs Q
  have h1:within b.st.singers.length 1 3=true:=within_iff.2 (by have:=hs.st.s1;have:=hs.st.s3;omega)
  have h2:decide ((b.sleeps.length:Int)=b.st.singers.length)=true:=decide_eq_true (by have:=hs.ss;omega)
  have h3:within b.st.days.length 1 5=true:=within_iff.2 (by have:=hs.st.d1;have:=hs.st.d5;omega)
  have h4:within b.cold.beds 1 5=true:=within_iff.2 hs.cold.b1
  have h5:within b.cold.days 1 6=true:=within_iff.2 hs.cold.d1
  have h6:decide ((b.st.days.length:Int)<=b.cold.days)=true:=decide_eq_true hs.dd
  have h7:decide ((b.rehs.length:Int)<=3)=true:=decide_eq_true (by have:=hs.r3;omega)
  have h8:decide ((b.st.rests.length:Int)<=6)=true:=decide_eq_true (by have:=hs.st.r6;omega)
  have h9:decide ((b.cold.moves.length:Int)<=3)=true:=decide_eq_true (by have:=hs.cold.m3;omega)
  rw [K_fn P04.f251 _ _ rfl]
  (simp only [go_sem,simprocAttr,e6d,hC,hcc,hcs,h1,h2,h3,h4,h5,h6,h7,h8,h9,e0,e1,e4t,List.length_map];repeat' ((first|refine brY ?_|refine brN ?_|refine brA ?_|refine brD ?_|refine brF ?_);(try simp only [go_sem,simprocAttr,e6d,hC,hcc,hcs,h1,h2,h3,h4,h5,h6,h7,h8,h9,e0,e1,e4t,List.length_map])))
end
end Go.Pm.St
namespace Go.Pm.St
open Ac
/-! ### Who is kept -/
/-! ### Lists of some numbers, in their order -/
def e6D (f:Nat->Bool):Nat->List Int
 | 0=>[]
 | j+1=>if f j then e6D f j++[(j:Int)] else e6D f j
theorem e9X (f:Nat->Bool) (j:Nat):∀ n,(e6D f n).contains (j:Int)=(decide (j<n)&&f j)
 | 0=>by simp [e6D]
 | n+1=>by
  have ih:=e9X f j n
  simp only [e6D]
  by_cases h:j=n
  ·subst h
   cases hf:f j with
   | true=>simp [List.contains_append]
   | false=>simp only [Bool.false_eq_true,if_false,ih,hf,Bool.and_false]
  ·have e:decide (j<n+1)=decide (j<n):=decide_eq_decide.2 (by omega)
   rw [e, ← ih]
   split
   ·have hne:¬ (j:Int)=n:=by omega
    simp [List.contains_append,hne]
   ·rfl
theorem f1E (f:Nat->Bool) (j n:Nat) (hj:j<n):decide (0<=d2R (e6D f n) j)=f j:=by
 have h:=d2z (e6D f n) j
 rw [e9X,decide_eq_true hj,Bool.true_and] at h
 have:decide (0<=d2R (e6D f n) j)=!decide (d2R (e6D f n) j<0):=by
  rw [← decide_not];exact decide_eq_decide.2 (by omega)
 rw [this,h,Bool.not_not]
theorem f0H (f:Nat->Bool) (n:Nat) (hn:n<=5):ordered (e6D f n) n=true:=by
 have:n=0\/n=1\/n=2\/n=3\/n=4\/n=5:=by omega
 rcases this with rfl|rfl|rfl|rfl|rfl|rfl<;>simp only [e6D]<;>cases f 0<;>(try cases f 1)<;>(try cases f 2)<;>(try cases f 3)<;>(try cases f 4)<;>decide
section
variable {Γ:Env} [P04 Γ] [G04 Γ] [GCo Γ] [GPr Γ]
theorem f2Z (k:SK) (l:List Int) (n:Int) (hl:l.length<=1000000):K Γ (.fn 66) [.sc (.sl k 1 (nums l)),vi n] []=some (vi (d2R l n),[]):=d3A k l n hl
theorem f1y (k:SK) (l:List Int) (below:Int) (hl:l.length<=1000000) (hb:0<=below/\below<=1000000):K Γ (.fn 34) [.sc (.sl k 1 (nums l)),vi below] []=some (vb (ordered l below),[]):=d3n k l below hl hb
end
end Go.Pm.St
namespace Go.Pm.St
open Ac
theorem f8u (b:PBook) (r:Nat):∀ n,b.a5c r n=e6D (fun j=>b.a4k (e6u.put r j)) n
 | 0=>rfl
 | n+1=>by simp only [PBook.a5c,e6D,f8u b r n]
theorem f8v (b:PBook):∀ n,b.e6F n=e6D (fun j=>decide ((b.alone j).length=0)) n
 | 0=>rfl
 | n+1=>by
  simp only [PBook.e6F,e6D,f8v b n]
  by_cases h:(b.alone n).length=0<;>simp [h]
theorem f8y (b:PBook) (r:Nat) (hr:r<b.rehs.length) (h3:b.rehs.length<=3) (d:Int):b.e7j ((List.replicate b.rehs.length (9:Int)).set r d)=e6u.put r d:=by
 unfold PBook.e7j
 rw [if_pos (by simp)]
 have h:b.rehs.length=1\/b.rehs.length=2\/b.rehs.length=3:=by omega
 generalize b.rehs.length=n at *
 rcases h with rfl|rfl|rfl
 ·obtain rfl:r=0:=by omega
  rfl
 ·have:r=0\/r=1:=by omega
  rcases this with rfl|rfl<;>rfl
 ·have:r=0\/r=1\/r=2:=by omega
  rcases this with rfl|rfl|rfl<;>rfl
def ownG (es:Nat) (L:List (List C)):C:=match L with | []=>.sl .full es []|_::_=>.own true es L
theorem f8x (L:List (List C)) (x:List C) (h:L.length<=1000):f1F 1 (.sc (ownG 1 L)) (.sc (.sl .full 1 [x]))=some (ownG 1 (L++[x])):=by
 have:L.length+1<=room:=by simp only [room];omega
 cases L with
 | nil=>simp [ownG,f1F,elems,room]
 | cons y L=>simp [ownG,f1F,appended,elems];simpa using this
section
variable {Γ:Env} [P04 Γ] [G04 Γ] [GCo Γ] [GPr Γ]
theorem f8z (b:PBook) [hb:b.Fits] (hs:PSane b) (x1:Obj) (hx1:∀ n,x1.under n=true) (a d:Int) (l nv:List Int) (k1 k2:SK) (e:Int) {β:Type} (Q:Ex->St->Option β) :
 E Γ f8t ⟨[(2,.sc (.ptr 0 0)),(5,vi a),(6,vi d),(7,.sc (.sl k1 1 (nums l))),(9,.sc (.sl k2 1 (nums nv))),(10,vi e),(11,.sc (.sl .full 1 [])),(12,vi 0)],[.var b.c,x1]⟩ Q =
 Q (.exit 0) ⟨[(2,.sc (.ptr 0 0)),(5,vi a),(6,vi d),(7,.sc (.sl k1 1 (nums l))),(9,.sc (.sl k2 1 (nums nv))),(10,vi e),(11,.sc (ownG 1 (nums (List.replicate b.rehs.length 9)))),(12,vi b.rehs.length),(74,vb false)],[.var b.c,x1]⟩:=by
 have h3:=hs.r3
 refine (a4Q (fun j=>⟨[(2,.sc (.ptr 0 0)),(5,vi a),(6,vi d),(7,.sc (.sl k1 1 (nums l))),(9,.sc (.sl k2 1 (nums nv))),(10,vi e),(11,.sc (ownG 1 (nums (List.replicate j 9)))),(12,vi j)],[.var b.c,x1]⟩) b.rehs
  (.exit 0,⟨[(2,.sc (.ptr 0 0)),(5,vi a),(6,vi d),(7,.sc (.sl k1 1 (nums l))),(9,.sc (.sl k2 1 (nums nv))),(10,vi e),(11,.sc (ownG 1 (nums (List.replicate b.rehs.length 9)))),(12,vi b.rehs.length),(74,vb false)],[.var b.c,x1]⟩) Q ?_ ?_ ?_).trans ?_
 ·rfl
 ·intro j x hx
  have hj:=(List.getElem?_eq_some_iff.1 hx).1
  have hlt:=decide_eq_true (show (j:Int)<b.rehs.length by omega)
  have hjw:IntKind.i64.wrap ((j:Int)+1)=j+1:=wrap_i64 (by omega) (by omega)
  have happ:=f8x (nums (List.replicate j 9)) [ci 9] (by simp [nums];omega)
  have hn:nums (List.replicate j 9)++[[ci 9]]=nums (List.replicate (j+1) 9):=by rw [List.replicate_succ',f2J];rfl
  rw [hn] at happ
  cases j with
  | zero =>
   have happ0:f1F 1 (.sc (.sl .full 1 [])) (.sc (.sl .full 1 [[ci 9]]))=some (.own true 1 [[ci 9]]):=f8x [] [ci 9] (by decide)
   (simp only [go_sem,simprocAttr,f8s,hlt,hjw,happ0,hx1,List.length_map,ownG,nums,List.map_nil,List.replicate_zero];repeat' ((first|refine brY ?_|refine brN ?_|refine brA ?_|refine brD ?_|refine brF ?_);(try simp only [go_sem,simprocAttr,f8s,hlt,hjw,happ0,hx1,List.length_map,ownG,nums,List.map_nil,List.replicate_zero])))
   try rfl
  | succ j =>
   simp only [ownG,nums,List.replicate_succ,List.map_cons] at happ ⊢
   (simp only [go_sem,simprocAttr,f8s,hlt,hjw,happ,hx1,List.length_map];repeat' ((first|refine brY ?_|refine brN ?_|refine brA ?_|refine brD ?_|refine brF ?_);(try simp only [go_sem,simprocAttr,f8s,hlt,hjw,happ,hx1,List.length_map])))
   try rfl
 ·have hlt:=decide_eq_false (show ¬ (b.rehs.length:Int)<b.rehs.length by omega)
  generalize nums (List.replicate b.rehs.length 9)=L
  cases L<;>(simp only [go_sem,simprocAttr,f8s,hlt,hx1,List.length_map,ownG];repeat' ((first|refine brY ?_|refine brN ?_|refine brA ?_|refine brD ?_|refine brF ?_);(try simp only [go_sem,simprocAttr,f8s,hlt,hx1,List.length_map,ownG])))
 ·rfl
set_option maxHeartbeats 1000000 in
theorem f8w (b:PBook) [hb:b.Fits] (n0 n1:Int):K Γ (.fn 355) [.agg b.c,.agg [ci n0,ci n1]] []=some (vb true,[]):=by
 cases hv:b.valid with
 | false =>
  rw [K_fn P04.f355 _ _ rfl]
  (simp only [go_sem,simprocAttr,f8r,hv];repeat' ((first|refine brY ?_|refine brN ?_|refine brA ?_|refine brD ?_|refine brF ?_);(try simp only [go_sem,simprocAttr,f8r,hv])))
 | true =>
  have hs:=e6h hv
  have hd1:=hs.st.d1;have hd5:=hs.st.d5;have hr3:=hs.r3
  by_cases hr0:b.rehs.length=0
  ·have d0:decide ((b.rehs.length:Int)=0)=true:=decide_eq_true (by omega)
   rw [K_fn P04.f355 _ _ rfl]
   (simp only [go_sem,simprocAttr,f8r,hv,d0,List.length_map];repeat' ((first|refine brY ?_|refine brN ?_|refine brA ?_|refine brD ?_|refine brF ?_);(try simp only [go_sem,simprocAttr,f8r,hv,d0,List.length_map])))
  ·have d0:decide ((b.rehs.length:Int)=0)=false:=decide_eq_false (by omega)
   have hT0:=d0x (Γ:=Γ) n0 b.rehs.length (by omega)
   have hT1:=d0x (Γ:=Γ) n1 b.st.days.length (by omega)
   have ht0:=c1x n0 b.rehs.length (by omega)
   have ht1:=c1x n1 b.st.days.length (by omega)
   obtain ⟨r,hr⟩:∃ r:Nat,turn n0 b.rehs.length=r:=⟨_,(Int.toNat_of_nonneg ht0.1).symm⟩
   obtain ⟨d,hd⟩:∃ d:Nat,turn n1 b.st.days.length=d:=⟨_,(Int.toNat_of_nonneg ht1.1).symm⟩
   rw [hr] at hT0 ht0
   rw [hd] at hT1 ht1
   have hA:=f2K (Γ:=Γ) b r
   have hN:=f2M (Γ:=Γ) b
   have hisr:b.e8H r=true:=within_iff.2 (by omega)
   cases hc:b.can with
   | false =>
    have e:b.e8f r=([],102):=by simp [PBook.e8f,PBook.err,hv,hisr,hc]
    have e2:b.never=([],102):=by simp [PBook.never,PBook.err,hv,hc]
    rw [e] at hA
    rw [e2] at hN
    simp only [kU,nums,List.map_nil] at hA hN
    rw [K_fn P04.f355 _ _ rfl]
    (simp only [go_sem,simprocAttr,f8r,hv,d0,hT0,hT1,hA,hN,List.length_map];repeat' ((first|refine brY ?_|refine brN ?_|refine brA ?_|refine brD ?_|refine brF ?_);(try simp only [go_sem,simprocAttr,f8r,hv,d0,hT0,hT1,hA,hN,List.length_map])))
   | true =>
    have he:b.err true=0:=by simp [PBook.err,hv,hc]
    have e:b.e8f r=(b.alone r,0):=by simp [PBook.e8f,PBook.err,hv,hisr,hc]
    have e2:b.never=(b.e6F b.rehs.length,0):=by simp only [PBook.never,if_pos he]
    rw [e] at hA
    rw [e2] at hN
    have hpa:b.alone r=e6D (fun j=>b.a4k (e6u.put r j)) b.st.days.length:=f8u b r _
    have hpn:b.e6F b.rehs.length=e6D (fun j=>decide ((b.alone j).length=0)) b.rehs.length:=f8v b _
    have hla:=e9S b r b.st.days.length
    have hln:=e9W b b.rehs.length
    change (b.alone r).length<=_ at hla
    have hO1:=f1y (Γ:=Γ) (kU (b.alone r)) (b.alone r) b.st.days.length (by omega) (by omega)
    have hO2:=f1y (Γ:=Γ) (kU (b.e6F b.rehs.length)) (b.e6F b.rehs.length) b.rehs.length (by omega) (by omega)
    rw [show ordered (b.alone r) b.st.days.length=true by rw [hpa];exact f0H _ _ (by omega)] at hO1
    rw [show ordered (b.e6F b.rehs.length) b.rehs.length=true by rw [hpn];exact f0H _ _ (by omega)] at hO2
    have hW1:=f2Z (Γ:=Γ) (kU (b.alone r)) (b.alone r) d (by omega)
    have hW2:=f2Z (Γ:=Γ) (kU (b.e6F b.rehs.length)) (b.e6F b.rehs.length) r (by omega)
    have w1:decide (0<=d2R (b.alone r) d)=b.a4k (e6u.put r d):=by rw [hpa,f1E _ _ _ (by omega)]
    have w2:decide (0<=d2R (b.e6F b.rehs.length) r)=decide (((b.alone r).length:Int)=0):=by
     rw [hpn,f1E _ _ _ (by omega)];exact decide_eq_decide.2 (by omega)
    have hM:=f4z (Γ:=Γ) b .shared ((List.replicate b.rehs.length (9:Int)).set r d) (by simp only [List.length_set,List.length_replicate];omega)
    have hmay:b.may ((List.replicate b.rehs.length (9:Int)).set r d)=(b.a4k (e6u.put r d),0):=by
     simp only [PBook.may,if_pos he,f8y b r (by omega) hr3,List.length_set,List.length_replicate,decide_true,Bool.true_and]
    rw [hmay] at hM
    have hL {β:Type} (Q:Ex->St->Option β):=f8z (Γ:=Γ) b hs (.var [ci n0,ci n1]) (fun n=>by simp [go_sem]) r d (b.alone r) (b.e6F b.rehs.length) (kU (b.alone r)) (kU (b.e6F b.rehs.length)) 0 Q
    obtain ⟨m,hm⟩:∃ m,b.rehs.length=m+1:=⟨b.rehs.length - 1,by omega⟩
    have hrep:nums (List.replicate b.rehs.length 9)=[ci 9]::nums (List.replicate m 9):=by rw [hm];rfl
    have hog:ownG 1 (nums (List.replicate b.rehs.length 9))=.own true 1 ([ci 9]::nums (List.replicate m 9)):=by rw [hrep];rfl
    rw [hog] at hL
    have hfl:([ci 9]::nums (List.replicate m 9)).flatten=fl (List.replicate b.rehs.length 9):=by rw [← hrep];exact f3q _
    have hnl:(nums (List.replicate m 9)).length+1=b.rehs.length:=by rw [e4t,List.length_replicate,hm]
    have hfs:=f1M (List.replicate b.rehs.length 9) r d
    have hb1:decide (0<=(r:Int)/\(r:Int)<b.rehs.length)=true:=decide_eq_true (by omega)
    have hq:decide (r+1<=b.rehs.length)=true:=decide_eq_true (by omega)
    have hfz {t:List (Nat × V)} {h:List Obj} (hi:get t 11=.sc (.msl 2 0 (m+1) 0 1)) (hr:h[2]?=some (.var (fl ((List.replicate b.rehs.length 9).set r (d:Int))))):a3G 11 ⟨t,h⟩=some ⟨(11,.sc (.sl .shared 1 (nums ((List.replicate b.rehs.length 9).set r (d:Int)))))::t,h.set 2 .dead⟩ :=
     f3t _ hi (by simp [hm]) (by omega) hr
    obtain ⟨u,hu⟩:∃ u,b.a4k (e6u.put r d)=u:=⟨_,rfl⟩
    obtain ⟨u2,hu2⟩:∃ u,decide (((b.alone r).length:Int)=0)=u:=⟨_,rfl⟩
    rw [hu] at w1 hM
    rw [hu2] at w2
    cases u<;>cases u2<;>rw [K_fn P04.f355 _ _ rfl]<;>(simp only [go_sem,simprocAttr,f8r,hv,d0,hT0,hT1,hA,hN,hL,hfl,hnl,hfs,hb1,hq,hfz,hM,hO1,hO2,hW1,hW2,w1,w2,hu2,f4g,e4t,List.length_map,List.length_set,List.length_replicate,Int.toNat_natCast,Nat.zero_add,Nat.mul_one];repeat' ((first|refine brY ?_|refine brN ?_|refine brA ?_|refine brD ?_|refine brF ?_);(try simp only [go_sem,simprocAttr,f8r,hv,d0,hT0,hT1,hA,hN,hL,hfl,hnl,hfs,hb1,hq,hfz,hM,hO1,hO2,hW1,hW2,w1,w2,hu2,f4g,e4t,List.length_map,List.length_set,List.length_replicate,Int.toNat_natCast,Nat.zero_add,Nat.mul_one])))
end
end Go.Pm.St
