/- The statement PracticeWell, part 7. -/
import Derived.Test.YtdockaglpfejhaaGreatDoorPracticeWellL6
set_option linter.all false
set_option maxRecDepth 100000
namespace Go.Pm.St
open Ac
def Near (l:List Int):Prop:=l.length=5/\∀ i, -1<=l.getD i 0/\l.getD i 0<=20
theorem e9q {l:List Int} (h:Near l) (i:Nat) {v:Int} (hv : -1<=v/\v<=20):Near (l.set i v):=by
 refine ⟨by rw [List.length_set,h.1],fun j=>?_⟩
 by_cases e:i=j
 ·subst e
  by_cases hi:i<l.length
  ·simp only [List.getD,List.getElem?_set_self hi,Option.getD_some];exact hv
  ·simp only [List.getD,List.getElem?_eq_none_iff.2 (show (l.set i v).length<=i by rw [List.length_set];omega),Option.getD_none];omega
 ·simp only [List.getD,List.getElem?_set_ne e];exact h.2 j
theorem e8q {A:Int->Int->Bool} {g beds:Int} {l:List Int} (h:Near l) {day:Int} (hd : -1<=day/\day<=20):∀ i,Near (dayN A g beds l day i)
 | 0=>h
 | i+1=>by
  simp only [dayN];split
  ·exact e9q (e8q h hd i) _ hd
  ·exact e8q h hd i
def e7a (c:Bool) (l:List Int) (i:Nat) (v:Int):List Int:=match c with|true=>l.set i v|false=>l
abbrev bcC (b:CBook) (L:List (Int × Int × Bool)) (t:C):List C:=C13 b (.imap true false (encB L)) t
def cw (bed day out goes:Int):Cold:=⟨bed,day,out,goes,0,0,0,0,0⟩
theorem frz5 (b:Nat) (h:List Obj) {l:List Int} (hl:l.length=5):frzL b h 128 (iv l)=some (iv l):=by
 match l,hl with
 | [a0,a1,a2,a3,a4],_=>simp only [iv,List.map_cons,List.map_nil,go_sem]
theorem set5 (z0 z1 z2 z3 z4:C) {l:List Int} (h:l.length=5):a1H [z0,z1,z2,z3,z4] 0 (iv l)=iv l:=by
 match l,h with
 | [a,b,c,d,e],_=>rfl
section
variable {Γ:Env} [P04 Γ] [G04 Γ] [GCo Γ]
theorem f2o (b:CBook) (hs:CSane b) (L:List (Int × Int × Bool)) (t:C) (w:Cold) (hg:1<=w.goes/\w.goes<=3) (l now:List Int) (hl:Near l) (hn:now.length=5) (day:Int) (hd:0<=day/\day<=10) (i:Nat) (hi:i<5) (ns:List Int) (hns:ns.length<=5)
 (H:List Obj) (N r:Nat) (hH:H.length=N) (hu:H.all (Obj.under N)=true) (hr:r<N) (z:Obj) (hz:∀ n,z.under n=true) (e:Int) {β:Type} (Q:Ex->St->Option β) :
 E Γ e7H ⟨[(1,vi day),(2,.sc (.eptr (bcC b L t) 0)),(3,.sc (.eptr w.c 0)),(4,.sc (.ptr r 0)),(5,.sc (.ptr N 0)),(7,.sc (.ptr (N+1) 0)),(8,.sc (.ptr (N+2) 0)),(9,vi i),(21,vi e),(22,vi i),(41,.sc (.sl .full 1 (ns.map fun y=>[ci y]))),(42,vi ns.length),(43,vi 0)],H++[.var (iv l),z,.var (iv now)]⟩ Q =
 Q (.exit 2) ⟨[(1,vi day),(2,.sc (.eptr (bcC b L t) 0)),(3,.sc (.eptr w.c 0)),(4,.sc (.ptr r 0)),(5,.sc (.ptr N 0)),(7,.sc (.ptr (N+1) 0)),(8,.sc (.ptr (N+2) 0)),(9,vi i),(21,vi e),(22,vi i),(41,.sc (.sl .full 1 (ns.map fun y=>[ci y]))),(42,vi ns.length),(43,vi ns.length),(44,vb false)],H++[.var (iv l),z,.var (iv (e7a (ns.any (e7z (gotB L) w.goes b.beds l day)) now i day))]⟩:=by
 have hb5:=hs.b1
 have hbw:IntKind.i64.wrap (b.beds - 1)=b.beds - 1:=wrap_i64 (by omega) (by omega)
 have hu3:H.all (Obj.under (N+3))=true:=a0Q _ _ _ hu
 have hr3:r<N+3:=by omega
 refine (a4Q (fun j=>⟨[(1,vi day),(2,.sc (.eptr (bcC b L t) 0)),(3,.sc (.eptr w.c 0)),(4,.sc (.ptr r 0)),(5,.sc (.ptr N 0)),(7,.sc (.ptr (N+1) 0)),(8,.sc (.ptr (N+2) 0)),(9,vi i),(21,vi e),(22,vi i),(41,.sc (.sl .full 1 (ns.map fun y=>[ci y]))),(42,vi ns.length),(43,vi j)],H++[.var (iv l),z,.var (iv (e7a ((ns.take j).any (e7z (gotB L) w.goes b.beds l day)) now i day))]⟩) ns
  (.exit 2,⟨[(1,vi day),(2,.sc (.eptr (bcC b L t) 0)),(3,.sc (.eptr w.c 0)),(4,.sc (.ptr r 0)),(5,.sc (.ptr N 0)),(7,.sc (.ptr (N+1) 0)),(8,.sc (.ptr (N+2) 0)),(9,vi i),(21,vi e),(22,vi i),(41,.sc (.sl .full 1 (ns.map fun y=>[ci y]))),(42,vi ns.length),(43,vi ns.length),(44,vb false)],H++[.var (iv l),z,.var (iv (e7a (ns.any (e7z (gotB L) w.goes b.beds l day)) now i day))]⟩) Q ?_ ?_ ?_).trans ?_
 ·rfl
 ·intro j x hx
  have hj:=(List.getElem?_eq_some_iff.1 hx).1
  have hlt:=decide_eq_true (show (j:Int)<ns.length by omega)
  have hjw:IntKind.i64.wrap ((j:Int)+1)=j+1:=wrap_i64 (by omega) (by omega)
  rw [take_snoc hx,List.any_append,List.any_cons,List.any_nil,Bool.or_false]
  generalize hc:(ns.take j).any (e7z (gotB L) w.goes b.beds l day)=c
  obtain ⟨m,hm,hml⟩:∃ m,e7a c now i day=m/\m.length=5:=⟨_,rfl,by cases c<;>simp [e7a,hn]⟩
  have hset:e7a (c||e7z (gotB L) w.goes b.beds l day x) now i day=e7a (e7z (gotB L) w.goes b.beds l day x) m i day:=by
   subst hm
   cases c<;>cases e7z (gotB L) w.goes b.beds l day x<;>simp [e7a,List.set_set]
  rw [hset,hm]
  have hi5:=decide_eq_true (show (0:Int)<=(i:Int)/\(i:Int)<5 by omega)
  have hml2:i<m.length:=by omega
  simp only [e7z]
  cases hwi:within x 0 (b.beds - 1) with
  | false =>
   simp only [Bool.false_and,e7a]
   (simp only [go_sem,simprocAttr,e4y,hx,hlt,hjw,hbw,hwi,hH,a0E,hu3,hr3,hz,List.length_map];repeat' ((first|refine brY ?_|refine brN ?_|refine brA ?_|refine brD ?_|refine brF ?_);(try simp only [go_sem,simprocAttr,e4y,hx,hlt,hjw,hbw,hwi,hH,a0E,hu3,hr3,hz,List.length_map])))
   rfl
  | true =>
   have hxb:=within_iff.1 hwi
   have hx5:=decide_eq_true (show (0:Int)<=x/\x<5 by omega)
   have hlg:=f1S l x.toNat (by rw [hl.1];omega)
   have hln:=hl.2 x.toNat
   have hgw:IntKind.i64.wrap (l.getD x.toNat 0+w.goes)=l.getD x.toNat 0+w.goes:=wrap_i64 (by omega) (by omega)
   by_cases h0:0<=l.getD x.toNat 0
   ·have d0:=decide_eq_true h0
    by_cases h1:l.getD x.toNat 0+w.goes=day
    ·have d1:=decide_eq_true h1
     cases hA:gotB L x day with
     | false =>
      simp only [d0,d1,Bool.true_and,Bool.not_false,e7a]
      (simp only [go_sem,simprocAttr,e4y,hx,hlt,hjw,hbw,hwi,hx5,hlg,hgw,d0,d1,hA,hi5,hml2,hH,a0E,hu3,hr3,hz,List.length_map];repeat' ((first|refine brY ?_|refine brN ?_|refine brA ?_|refine brD ?_|refine brF ?_);(try simp only [go_sem,simprocAttr,e4y,hx,hlt,hjw,hbw,hwi,hx5,hlg,hgw,d0,d1,hA,hi5,hml2,hH,a0E,hu3,hr3,hz,List.length_map])))
      rfl
     | true =>
      simp only [d0,d1,Bool.true_and,Bool.not_true,e7a]
      (simp only [go_sem,simprocAttr,e4y,hx,hlt,hjw,hbw,hwi,hx5,hlg,hgw,d0,d1,hA,hH,a0E,hu3,hr3,hz,List.length_map];repeat' ((first|refine brY ?_|refine brN ?_|refine brA ?_|refine brD ?_|refine brF ?_);(try simp only [go_sem,simprocAttr,e4y,hx,hlt,hjw,hbw,hwi,hx5,hlg,hgw,d0,d1,hA,hH,a0E,hu3,hr3,hz,List.length_map])))
      rfl
    ·have d1:=decide_eq_false h1
     simp only [d0,d1,Bool.true_and,Bool.false_and,e7a]
     (simp only [go_sem,simprocAttr,e4y,hx,hlt,hjw,hbw,hwi,hx5,hlg,hgw,d0,d1,hH,a0E,hu3,hr3,hz,List.length_map];repeat' ((first|refine brY ?_|refine brN ?_|refine brA ?_|refine brD ?_|refine brF ?_);(try simp only [go_sem,simprocAttr,e4y,hx,hlt,hjw,hbw,hwi,hx5,hlg,hgw,d0,d1,hH,a0E,hu3,hr3,hz,List.length_map])))
     rfl
   ·have d0:=decide_eq_false h0
    simp only [d0,Bool.true_and,Bool.false_and,e7a]
    (simp only [go_sem,simprocAttr,e4y,hx,hlt,hjw,hbw,hwi,hx5,hlg,d0,hH,a0E,hu3,hr3,hz,List.length_map];repeat' ((first|refine brY ?_|refine brN ?_|refine brA ?_|refine brD ?_|refine brF ?_);(try simp only [go_sem,simprocAttr,e4y,hx,hlt,hjw,hbw,hwi,hx5,hlg,d0,hH,a0E,hu3,hr3,hz,List.length_map])))
    rfl
 ·have hlt:=decide_eq_false (show ¬ (ns.length:Int)<ns.length by omega)
  rw [List.take_length]
  (simp only [go_sem,simprocAttr,e4y,hlt,hH,a0E,hu3,hr3,hz];repeat' ((first|refine brY ?_|refine brN ?_|refine brA ?_|refine brD ?_|refine brF ?_);(try simp only [go_sem,simprocAttr,e4y,hlt,hH,a0E,hu3,hr3,hz])))
 ·rfl
theorem f1s (A:Int->Int->Bool) (g beds:Int) (l:List Int) (day:Int) (i:Nat):dayN A g beds l day (i+1)=e7a (catches A g beds l day i) (dayN A g beds l day i) i day:=by
 simp only [dayN,e7a]
 cases catches A g beds l day i<;>rfl
theorem f2n (b:CBook) (hs:CSane b) (nb:Nat) (hnb:b.beds=nb) (L:List (Int × Int × Bool)) (t:C) (w:Cold) (hg:1<=w.goes/\w.goes<=3) (l:List Int) (hl:Near l) (day:Int) (hd:0<=day/\day<=10)
 (H:List Obj) (N r:Nat) (hH:H.length=N) (hu:H.all (Obj.under N)=true) (hr:r<N) (z:Obj) (hz:∀ n,z.under n=true) {β:Type} (Q:Ex->St->Option β) :
 E Γ e7G ⟨[(1,vi day),(2,.sc (.eptr (bcC b L t) 0)),(3,.sc (.eptr w.c 0)),(4,.sc (.ptr r 0)),(5,.sc (.ptr N 0)),(7,.sc (.ptr (N+1) 0)),(8,.sc (.ptr (N+2) 0)),(21,vi b.beds),(22,vi 0)],H++[.var (iv l),z,.var (iv l)]⟩ Q =
 Q (.exit 0) ⟨[(1,vi day),(2,.sc (.eptr (bcC b L t) 0)),(3,.sc (.eptr w.c 0)),(4,.sc (.ptr r 0)),(5,.sc (.ptr N 0)),(7,.sc (.ptr (N+1) 0)),(8,.sc (.ptr (N+2) 0)),(21,vi b.beds),(22,vi b.beds),(23,vb false)],H++[.var (iv l),z,.var (iv (dayN (gotB L) w.goes b.beds l day nb))]⟩:=by
 have hb5:=hs.b1
 have hu3:H.all (Obj.under (N+3))=true:=a0Q _ _ _ hu
 have hr3:r<N+3:=by omega
 refine a4q nb (fun i (_:Unit)=>⟨[(1,vi day),(2,.sc (.eptr (bcC b L t) 0)),(3,.sc (.eptr w.c 0)),(4,.sc (.ptr r 0)),(5,.sc (.ptr N 0)),(7,.sc (.ptr (N+1) 0)),(8,.sc (.ptr (N+2) 0)),(21,vi b.beds),(22,vi i)],H++[.var (iv l),z,.var (iv (dayN (gotB L) w.goes b.beds l day i))]⟩) (fun _ _=>True)
  (fun _=>(.exit 0,⟨[(1,vi day),(2,.sc (.eptr (bcC b L t) 0)),(3,.sc (.eptr w.c 0)),(4,.sc (.ptr r 0)),(5,.sc (.ptr N 0)),(7,.sc (.ptr (N+1) 0)),(8,.sc (.ptr (N+2) 0)),(21,vi b.beds),(22,vi b.beds),(23,vb false)],H++[.var (iv l),z,.var (iv (dayN (gotB L) w.goes b.beds l day nb))]⟩)) () rfl trivial ?_ ?_ (fun _ _=>rfl)
 ·intro i _ hi _
  refine ⟨(),trivial,?_⟩
  have hlt:=decide_eq_true (show (i:Int)<b.beds by omega)
  have hiw:IntKind.i64.wrap ((i:Int)+1)=i+1:=wrap_i64 (by omega) (by omega)
  have hmw:IntKind.i64.wrap ((i:Int) - 1)=i - 1:=wrap_i64 (by omega) (by omega)
  have hi5:=decide_eq_true (show (0:Int)<=(i:Int)/\(i:Int)<5 by omega)
  have hlg:=f1S l i (by rw [hl.1];omega)
  have hnl:(dayN (gotB L) w.goes b.beds l day i).length=5:=by rw [e8F,hl.1]
  have h1 {β:Type} (Q:Ex->St->Option β):=f2o (Γ:=Γ) b hs L t w hg l _ hl hnl day hd i (by omega) [(i:Int) - 1,(i:Int)+1] (by simp) H N r hH hu hr z hz b.beds Q
  simp only [List.map_cons,List.map_nil,List.length_cons,List.length_nil,List.any_cons,List.any_nil,Bool.or_false,show ((0+1+1:Nat):Int)=2 from rfl] at h1
  rw [f1s]
  simp only [catches,Int.toNat_natCast]
  by_cases h0:0<=l.getD i 0
  ·have d0:=decide_eq_true h0
   simp only [d0,Bool.true_or,Bool.not_true,Bool.false_and,e7a]
   (simp only [go_sem,simprocAttr,e4H,hlt,hiw,hi5,hlg,d0,hH,a0E,hu3,hr3,hz];repeat' ((first|refine brY ?_|refine brN ?_|refine brA ?_|refine brD ?_|refine brF ?_);(try simp only [go_sem,simprocAttr,e4H,hlt,hiw,hi5,hlg,d0,hH,a0E,hu3,hr3,hz])))
   rfl
  ·have d0:=decide_eq_false h0
   cases hA:gotB L i day with
   | true =>
    simp only [d0,Bool.false_or,Bool.not_true,Bool.false_and,e7a]
    (simp only [go_sem,simprocAttr,e4H,hlt,hiw,hi5,hlg,d0,hA,hH,a0E,hu3,hr3,hz];repeat' ((first|refine brY ?_|refine brN ?_|refine brA ?_|refine brD ?_|refine brF ?_);(try simp only [go_sem,simprocAttr,e4H,hlt,hiw,hi5,hlg,d0,hA,hH,a0E,hu3,hr3,hz])))
    rfl
   | false =>
    simp only [d0,Bool.false_or,Bool.not_false,Bool.true_and]
    (simp only [go_sem,simprocAttr,e4H,hlt,hiw,hmw,hi5,hlg,d0,hA,h1,hH,a0E,hu3,hr3,hz];repeat' ((first|refine brY ?_|refine brN ?_|refine brA ?_|refine brD ?_|refine brF ?_);(try simp only [go_sem,simprocAttr,e4H,hlt,hiw,hmw,hi5,hlg,d0,hA,h1,hH,a0E,hu3,hr3,hz])))
    rfl
 ·intro _ _
  have hlt:=decide_eq_false (show ¬ (nb:Int)<nb by omega)
  simp only [hnb]
  (simp only [go_sem,simprocAttr,e4H,hlt,hH,a0E,hu3,hr3,hz];repeat' ((first|refine brY ?_|refine brN ?_|refine brA ?_|refine brD ?_|refine brF ?_);(try simp only [go_sem,simprocAttr,e4H,hlt,hH,a0E,hu3,hr3,hz])))
theorem f0b (b:CBook) (hs:CSane b) (L:List (Int × Int × Bool)) (t:C) (ht:t.pure=true) (w:Cold) (hg:1<=w.goes/\w.goes<=3) (r:Nat) :
 ∀ (n:Nat) (l:List Int) (day:Int) (H:List Obj) (N:Nat),(b.days - day).toNat=n->Near l->0<=day/\day<=7->H.length=N->H.all (Obj.under N)=true->r<N →
  H[r]?=some (.var [.fn (.fn 337) [] [] [.eptr (bcC b L t) 0,.eptr w.c 0,.ptr r 0]]) →
  K Γ (.fn 337) [.agg (iv l),vi day,.sc (.eptr (bcC b L t) 0),.sc (.eptr w.c 0),.sc (.ptr r 0)] H=some (.agg (iv (e6S (gotB L) w.goes b.beds n l day)),H)
 | 0,l,day,H,N,hn,hl,hd,hH,hu,hr,hf=>by
  have hd6:=hs.d1
  have hge:=decide_eq_true (show b.days<=day by omega)
  have hu2:H.all (Obj.under (N+2))=true:=a0Q _ _ _ hu
  have hr2:r<N+2:=by omega
  have hrl:r<H.length:=by omega
  have hall:=e7O l 5 hl.1
  have hll:=hl.1
  have hs0 (z0 z1 z2 z3 z4:C):=set5 z0 z1 z2 z3 z4 hll
  have hfz (b:Nat) (h:List Obj):=frz5 b h hll
  simp only [e6S]
  rw [K_fn P04.f337 _ _ rfl]
  simp only [go_sem,simprocAttr,e5n,hH,a0E,hge,hu2,hr2,hall,hll,hs0,hfz,hu]
 | n+1,l,day,H,N,hn,hl,hd,hH,hu,hr,hf=>by
  have hd6:=hs.d1
  have hb5:=hs.b1
  have hge:=decide_eq_false (show ¬ b.days<=day by omega)
  have hu2:H.all (Obj.under (N+2))=true:=a0Q _ _ _ hu
  have hu3:H.all (Obj.under (N+3))=true:=a0Q _ _ _ hu
  have hr2:r<N+2:=by omega
  have hr3:r<N+3:=by omega
  have hrl:r<H.length:=by omega
  have hall:=e7O l 5 hl.1
  have hll:=hl.1
  have hdw:IntKind.i64.wrap (day+1)=day+1:=wrap_i64 (by omega) (by omega)
  obtain ⟨nb,hnb⟩:∃ nb:Nat,b.beds=nb:=⟨b.beds.toNat,by omega⟩
  have hnt:b.beds.toNat=nb:=by omega
  have hz:∀ n,Obj.under n (.var [ci 0,ci 0,ci 0,ci 0,ci 0])=true:=fun n=>by simp [go_sem]
  have hL {β:Type} (Q:Ex->St->Option β):=f2n (Γ:=Γ) b hs nb hnb L t w hg l hl day (by omega) H N r hH hu hr (.var [ci 0,ci 0,ci 0,ci 0,ci 0]) hz Q
  have hnd:=e8q (A:=gotB L) (g:=w.goes) (beds:=b.beds) hl (day:=day) (by omega) nb
  have hndl:=hnd.1
  have hnda:=e7O _ 5 hndl
  have ih:=f0b b hs L t ht w hg r n (dayN (gotB L) w.goes b.beds l day nb) (day+1) (H++[.var (iv l),.var [ci 0,ci 0,ci 0,ci 0,ci 0],.var (iv (dayN (gotB L) w.goes b.beds l day nb))]) (N+3) (by omega) hnd (by omega) (by simp [hH]) (by rw [List.all_append,hu3];simp [go_sem]) (by omega) (by rw [b2M _ _ _ hrl,hf])
  have hsl:(e6S (gotB L) w.goes b.beds n (dayN (gotB L) w.goes b.beds l day nb) (day+1)).length=5:=by rw [e8u,hndl]
  have hsa:=e7O _ 5 hsl
  have hs0 (z0 z1 z2 z3 z4:C):=set5 z0 z1 z2 z3 z4 hll
  have hs1 (z0 z1 z2 z3 z4:C):=set5 z0 z1 z2 z3 z4 hsl
  have hfz (b:Nat) (h:List Obj):=frz5 b h hsl
  have hgr (X:List Obj):(H++X)[r]?=some (.var [.fn (.fn 337) [] [] [.eptr (bcC b L t) 0,.eptr w.c 0,.ptr r 0]]):=by rw [b2M _ _ _ hrl,hf]
  simp only [e6S,hnt]
  rw [K_fn P04.f337 _ _ rfl]
  simp only [go_sem,simprocAttr,e5n,hH,a0E,hge,hdw,hu2,hu3,hr2,hr3,hrl,hgr,hfz,hall,hll,hL,hndl,hnda,hsl,hsa,hs0,hs1,ih,hu]
theorem f2Y (b:CBook) (hs:CSane b) (L:List (Int × Int × Bool)) (t:C) (ht:t.pure=true) (hun:a0r t=t) (bed:Nat) (hb:(bed:Int)<b.beds) (day:Int) (hd:0<=day/\day<b.days) (out goes:Int) (hg:1<=goes/\goes<=3) :
 K Γ (.fn 334) [.agg (bcC b L t),.agg (cw bed day out goes).c] []=some (.agg (iv (b.spread (gotB L) bed day goes)),[]):=by
 have hb5:=hs.b1;have hd6:=hs.d1
 have hbp:C.a0v [C.imap true false (encB L),t]=true:=by simp only [C.a0v,ht,Bool.and_true];rfl
 have hu (n:Nat):C.a0G n [C.imap true false (encB L),t]=true:=a0C n _ hbp
 have hi5:=decide_eq_true (show (0:Int)<=(bed:Int)/\(bed:Int)<5 by omega)
 have hdw:IntKind.i64.wrap (day+1)=day+1:=wrap_i64 (by omega) (by omega)
 have hn5:Near e5Q:=⟨rfl,fun i=>by
  by_cases h:i<5
  ·have:i=0\/i=1\/i=2\/i=3\/i=4:=by omega
   rcases this with rfl|rfl|rfl|rfl|rfl<;>simp [e5Q]
  ·simp only [List.getD,List.getElem?_eq_none_iff.2 (show e5Q.length<=i by simp [e5Q];omega),Option.getD_none];omega⟩
 have hl0:Near (e5Q.set bed day):=e9q hn5 bed (by omega)
 have h5:e5Q.length=5:=rfl
 have hl5:=hl0.1
 have hla:=e7O _ 5 hl5
 have hiv:[ci (-1),ci (-1),ci (-1),ci (-1),ci (-1)]=iv e5Q:=rfl
 have hia:=e7O e5Q 5 rfl
 have hbl:bed<e5Q.length:=by rw [h5];omega
 have hS:=f0b (Γ:=Γ) b hs L t ht (cw bed day out goes) hg 4 (b.days - (day+1)).toNat (e5Q.set bed day) (day+1)
  [.dead,.dead,.var [ci 0,ci 0,ci 0,ci 0,ci 0],.var (iv (e5Q.set bed day)),.var [.fn (.fn 337) [] [] [.eptr (bcC b L t) 0,.eptr (cw bed day out goes).c 0,.ptr 4 0]]] 5 rfl hl0 (by omega) rfl (by simp [go_sem]) (by omega) rfl
 have hsl:=f1D b (gotB L) bed day goes
 have hsa:=e7O _ 5 hsl
 have hR:b.spread (gotB L) bed day goes=e6S (gotB L) (cw bed day out goes).goes b.beds (b.days - (day+1)).toNat (e5Q.set bed day) (day+1):=by simp [CBook.spread,cw]
 rw [← hR] at hS
 have hs0 (z0 z1 z2 z3 z4:C):=set5 z0 z1 z2 z3 z4 h5
 have hs1 (z0 z1 z2 z3 z4:C):=set5 z0 z1 z2 z3 z4 hsl
 have hfz (b:Nat) (h:List Obj):=frz5 b h hsl
 have c0:(cw (bed:Int) day out goes).bed=bed:=rfl
 have c1:(cw (bed:Int) day out goes).day=day:=rfl
 rw [K_fn P04.f334 _ _ rfl]
 (simp only [go_sem,simprocAttr,e6i,hi5,hdw,hiv,hia,h5,hl5,hla,hbl,hbp,hu,hun,hS,hsl,hsa,hs0,hs1,hfz,c0,c1];repeat' ((first|refine brY ?_|refine brN ?_|refine brA ?_|refine brD ?_|refine brF ?_);(try simp only [go_sem,simprocAttr,e6i,hi5,hdw,hiv,hia,h5,hl5,hla,hbl,hbp,hu,hun,hS,hsl,hsa,hs0,hs1,hfz,c0,c1])))
end
end Go.Pm.St
namespace Go.Pm.St
open Ac
structure Fair (b:CBook) (w:Cold):Prop where
 len:∀ i:Nat, -1<=w.at i/\w.at i<=20
 o:0<=w.out/\w.out<=10
theorem f4v (x y:Bool):a0c [0] [.bool x] [.bool y]=some (decide (x=y)):=by
 cases x<;>cases y<;>simp [a0c,a0g]
section
variable {Γ:Env} [P04 Γ] [G04 Γ] [GCo Γ]
theorem f2V (b:CBook) (hs:CSane b) (w:Cold) (hw:Fair b w) (x:Hear) (hx:x∈b.heard):K Γ (.fn 335) [.agg x.c,.sc (.eptr w.c 0)] []=some (vb (decide (w.e6J x.bed x.day≠x.cough)),[]):=by
 obtain ⟨h1,h2⟩:=hs.hd x hx
 have hb5:=hs.b1
 obtain ⟨i,hi⟩:∃ i:Nat,x.bed=i:=⟨x.bed.toNat,by omega⟩
 have hc:=f2y (Γ:=Γ) w i (by omega) x.day (by have:=hw.len i;omega) hw.o
 have hk:=f4v (w.e6J i x.day) x.cough
 have e:decide (w.e6J x.bed x.day≠x.cough)=!decide (w.e6J i x.day=x.cough):=by rw [hi];by_cases h:w.e6J i x.day=x.cough<;>simp [h]
 rw [e]
 rw [K_fn P04.f335 _ _ rfl]
 simp only [go_sem,simprocAttr,e5X,hi,hc,hk]
theorem f1Q (b:CBook) (hs:CSane b) (w:Cold) (hw:Fair b w):K Γ (.fn 342) [.sc (.sl b.kh 3 (b.heard.map Hear.c)),.sc (.fn (.fn 335) [] [] [.eptr w.c 0])] [] =
 some (vi (match a0z (fun _ (x:Hear)=>decide (w.e6J x.bed x.day≠x.cough)) 0 b.heard with|some q=>q.1|none => -1),[]):=by
 have h4:=hs.h4
 have h1:=fun x hx=>f2V (Γ:=Γ) b hs w hw x hx
 have hL {β:Type} (Q:Ex->St->Option β):E Γ e5S ⟨[(0,.sc (.sl b.kh 3 (b.heard.map Hear.c))),(1,.sc (.fn (.fn 335) [] [] [.eptr w.c 0])),(7,vi b.heard.length),(8,vi 0)],[]⟩ Q =
  match a0z (fun _ (x:Hear)=>decide (w.e6J x.bed x.day≠x.cough)) 0 b.heard with
  | some q=>Q .ret ⟨[(4,vi q.1)],[]⟩
  | none=>Q (.exit 0) ⟨[(0,.sc (.sl b.kh 3 (b.heard.map Hear.c))),(1,.sc (.fn (.fn 335) [] [] [.eptr w.c 0])),(7,vi b.heard.length),(8,vi b.heard.length),(9,vb false)],[]⟩:=by
  refine (a4L (fun j=>⟨[(0,.sc (.sl b.kh 3 (b.heard.map Hear.c))),(1,.sc (.fn (.fn 335) [] [] [.eptr w.c 0])),(7,vi b.heard.length),(8,vi j)],[]⟩) b.heard (fun _ (x:Hear)=>decide (w.e6J x.bed x.day≠x.cough))
   (fun i _=>(.ret,⟨[(4,vi i)],[]⟩)) (.exit 0,⟨[(0,.sc (.sl b.kh 3 (b.heard.map Hear.c))),(1,.sc (.fn (.fn 335) [] [] [.eptr w.c 0])),(7,vi b.heard.length),(8,vi b.heard.length),(9,vb false)],[]⟩) Q ?_ ?_ ?_).trans ?_
  ·intro j y hy hf
   have hlt':=(List.getElem?_eq_some_iff.1 hy).1
   have hlt:=decide_eq_true (show (j:Int)<b.heard.length by omega)
   have hiw:IntKind.i64.wrap ((j:Int)+1)=j+1:=wrap_i64 (by omega) (by omega)
   have h2:=h1 y (List.mem_of_getElem? hy)
   rw [hf] at h2
   (simp only [go_sem,simprocAttr,e4u,hy,hlt,hiw,h2,List.length_map];repeat' ((first|refine brY ?_|refine brN ?_|refine brA ?_|refine brD ?_|refine brF ?_);(try simp only [go_sem,simprocAttr,e4u,hy,hlt,hiw,h2,List.length_map])))
   rfl
  ·intro j y hy hf
   have hlt':=(List.getElem?_eq_some_iff.1 hy).1
   have hlt:=decide_eq_true (show (j:Int)<b.heard.length by omega)
   have h2:=h1 y (List.mem_of_getElem? hy)
   rw [hf] at h2
   (simp only [go_sem,simprocAttr,e4u,hy,hlt,h2,List.length_map];repeat' ((first|refine brY ?_|refine brN ?_|refine brA ?_|refine brD ?_|refine brF ?_);(try simp only [go_sem,simprocAttr,e4u,hy,hlt,h2,List.length_map])))
  ·have hlt:=decide_eq_false (show ¬ (b.heard.length:Int)<b.heard.length by omega)
   simp only [go_sem,simprocAttr,e4u,hlt,List.length_map]
  ·cases a0z (fun _ (x:Hear)=>decide (w.e6J x.bed x.day≠x.cough)) 0 b.heard<;>rfl
 cases h0:a0z (fun _ (x:Hear)=>decide (w.e6J x.bed x.day≠x.cough)) 0 b.heard with
 | none=>simp only [h0] at hL;rw [K_fn P04.f342 _ _ rfl];simp only [go_sem,simprocAttr,e4B,hL,List.length_map]
 | some q=>simp only [h0] at hL;rw [K_fn P04.f342 _ _ rfl];simp only [go_sem,simprocAttr,e4B,hL,List.length_map]
theorem f1N (b:CBook) (hs:CSane b) (w:Cold) (hw:Fair b w):K Γ (.fn 336) [.sc (.sl b.kh 3 (b.heard.map Hear.c)),.sc (.fn (.fn 335) [] [] [.eptr w.c 0])] []=some (vb (!b.right w),[]):=by
 have h:=f1Q (Γ:=Γ) b hs w hw
 have e:(!b.right w)=(a0z (fun _ (x:Hear)=>decide (w.e6J x.bed x.day≠x.cough)) 0 b.heard).isSome:=by
  rw [f3f (fun x:Hear=>decide (w.e6J x.bed x.day≠x.cough)),CBook.right,Bool.not_not]
 rw [e]
 cases h0:a0z (fun _ (x:Hear)=>decide (w.e6J x.bed x.day≠x.cough)) 0 b.heard with
 | none =>
  rw [h0] at h
  rw [K_fn P04.f336 _ _ rfl]
  simp only [go_sem,simprocAttr,e4x,h,Option.isSome_none]
 | some q =>
  rw [h0] at h
  have d:=decide_eq_true (show (0:Int)<=q.1 by omega)
  rw [K_fn P04.f336 _ _ rfl]
  simp only [go_sem,simprocAttr,e4x,h,d,Option.isSome_some]
theorem f2z (b:CBook) (hs:CSane b) (L:List (Int × Int × Bool)) (t:C) (ht:t.pure=true) (w:Cold) (hw:Fair b w):K Γ (.fn 333) [.agg (bcC b L t),.agg w.c] []=some (vb (b.right w),[]):=by
 have hbp:C.a0v [C.imap true false (encB L),t]=true:=by simp only [C.a0v,ht,Bool.and_true];rfl
 have hu (n:Nat):C.a0G n [C.imap true false (encB L),t]=true:=a0C n _ hbp
 have hh:=f1N (Γ:=Γ) b hs w hw
 rw [K_fn P04.f333 _ _ rfl]
 simp only [go_sem,simprocAttr,e6n,hh,hu,hbp,Bool.not_not]
end
end Go.Pm.St
namespace Go.Pm.St
open Ac
theorem e8T {A:Int->Int->Bool} {g beds:Int}:∀ (n:Nat) (l:List Int) (day:Int),Near l->0<=day->day+n<=20->Near (e6S A g beds n l day)
 | 0,_,_,h,_,_=>h
 | n+1,l,day,h,h0,h1=>by
  simp only [e6S]
  exact e8T n _ _ (e8q h (by omega) _) (by omega) (by omega)
theorem f1v:Near e5Q:=⟨rfl,fun i=>by
 by_cases h:i<5
 ·have:i=0\/i=1\/i=2\/i=3\/i=4:=by omega
  rcases this with rfl|rfl|rfl|rfl|rfl<;>simp [e5Q]
 ·simp only [List.getD,List.getElem?_eq_none_iff.2 (show e5Q.length<=i by simp [e5Q];omega),Option.getD_none];omega⟩
theorem e9g {b:CBook} (hs:CSane b) (A:Int->Int->Bool) (bed day goes:Int) (hd:0<=day/\day<b.days):Near (b.spread A bed day goes):=by
 have hd6:=hs.d1
 exact e8T _ _ _ (e9q f1v _ (by omega)) (by omega) (by omega)
theorem f2C {b:CBook} (hs:CSane b) (A:Int->Int->Bool) (bed day:Nat) (out goes:Int) (hd:(day:Int)<b.days) (ho:0<=out/\out<=10):Fair b (b.e7P A bed day out goes):=by
 have hn:=e9g hs A bed day goes (by omega)
 refine ⟨fun i=>?_,ho⟩
 have e:(b.e7P A bed day out goes).l=b.spread A bed day goes:=f0n hn.1
 simp only [Cold.at,e]
 exact hn.2 _
theorem f3O (bed day out goes:Int) {l:List Int} (h:l.length=5):a1H (cw bed day out goes).c 4 (iv l)=(e9u bed day out goes l).c:=by
 match l,h with
 | [a,b,c,d,e],_=>rfl
theorem f4u {l:List Int} (h:l.length=5) (h2:l≠e5Q):a0c [1,1,1,1,1] (iv l) (iv e5Q)=some false:=by
 match l,h with
 | [a,b,c,d,e],_ =>
  have:¬ (a = -1/\b = -1/\c = -1/\d = -1/\e = -1):=by rintro ⟨rfl,rfl,rfl,rfl,rfl⟩;exact h2 rfl
  simp only [iv,e5Q,List.map_cons,List.map_nil,a0c,a0g]
  by_cases h0:a = -1<;>by_cases h1:b = -1<;>by_cases h3:c = -1<;>by_cases h4:d = -1<;>by_cases h5:e = -1<;>simp_all
theorem cut3 {b:CBook} (hs:CSane b) (A:Int->Int->Bool) (bed day:Nat) (j:Nat) (hj:j<=b.g.many) (out:Int):(b.e6H A bed day out j).length<=2:=by
 have:=e8S b A bed day out j
 have:=e9P hs.g1.2.2.2;omega
section
variable {Γ:Env} [P04 Γ] [G04 Γ] [GCo Γ]
structure Yields (Γ:Env) (G:List Cold->List Obj) (N l:Nat):Prop where
 yl:l<N
 len:∀ ts,(G ts).length=N
 und:∀ ts,(G ts).all (Obj.under N)=true
 yield:∀ ts (w:Cold) (fr:List Obj),ts.length<=200->fr.all (Obj.under (N+fr.length))=true->K Γ (.yield l) [.agg w.c] (G ts++fr)=some (vb true,G (ts++[w])++fr)
abbrev rgt (b:CBook) (L:List (Int × Int × Bool)):C:=.fn (.fn 333) [some 13] (bcC b L (.sl .nil 9 [])) []
theorem f3d (b:CBook) (hs:CSane b) (L:List (Int × Int × Bool)) (G:List Cold->List Obj) (N l:Nat) (hY:Yields Γ G N l) (bed day:Nat) (hb:(bed:Int)<b.beds) (hd:(day:Int)<b.days) (out:Int) (ho:0<=out/\out<=10) (ts:List Cold) (hts:ts.length<=190) (e til:Int) {β:Type} (Q:Ex->St->Option β) :
 E Γ e7N ⟨[(0,.sc (.fn (.yield l) [] [] [])),(1,.sc (.eptr (bcC b L (.sl .nil 9 [])) 0)),(3,.sc (rgt b L)),(4,vi bed),(6,.sc (.ptr N 0)),(7,vi out),(8,vi b.g.lo),(14,vi e),(15,vi bed),(28,vi til),(29,vi day)],G ts++[.var [ci bed,ci day]]⟩ Q =
 Q (.exit 6) ⟨[(0,.sc (.fn (.yield l) [] [] [])),(1,.sc (.eptr (bcC b L (.sl .nil 9 [])) 0)),(3,.sc (rgt b L)),(4,vi bed),(6,.sc (.ptr N 0)),(7,vi out),(8,vi (b.g.lo+b.g.many)),(14,vi e),(15,vi bed),(28,vi til),(29,vi day),(69,vb false)],G (ts++b.e6H (gotB L) bed day out b.g.many)++[.var [ci bed,ci day]]⟩:=by
 have hg:=hs.g1
 have hb5:=hs.b1
 have hm:(b.g.many:Int)=b.g.hi - b.g.lo+1:=by simp only [Span.many];omega
 have hl1:l<N+1:=by have:=hY.yl;omega
 refine a4q b.g.many (fun j (_:Unit)=>⟨[(0,.sc (.fn (.yield l) [] [] [])),(1,.sc (.eptr (bcC b L (.sl .nil 9 [])) 0)),(3,.sc (rgt b L)),(4,vi bed),(6,.sc (.ptr N 0)),(7,vi out),(8,vi (b.g.lo+j)),(14,vi e),(15,vi bed),(28,vi til),(29,vi day)],G (ts++b.e6H (gotB L) bed day out j)++[.var [ci bed,ci day]]⟩) (fun _ _=>True)
  (fun _=>(.exit 6,⟨[(0,.sc (.fn (.yield l) [] [] [])),(1,.sc (.eptr (bcC b L (.sl .nil 9 [])) 0)),(3,.sc (rgt b L)),(4,vi bed),(6,.sc (.ptr N 0)),(7,vi out),(8,vi (b.g.lo+b.g.many)),(14,vi e),(15,vi bed),(28,vi til),(29,vi day),(69,vb false)],G (ts++b.e6H (gotB L) bed day out b.g.many)++[.var [ci bed,ci day]]⟩)) () (by simp [CBook.e6H]) trivial ?_ ?_ (fun _ _=>rfl)
 ·intro j _ hj _
  refine ⟨(),trivial,?_⟩
  have hle:=decide_eq_true (show b.g.lo+(j:Int)<=b.g.hi by omega)
  have hjw:IntKind.i64.wrap (b.g.lo+(j:Int)+1)=b.g.lo+((j+1:Nat):Int):=by rw [wrap_i64 (by omega) (by omega)];omega
  have hs3:=cut3 hs (gotB L) bed day j (by omega) out
  have hlen:=hY.len (ts++b.e6H (gotB L) bed day out j)
  have hund:=hY.und (ts++b.e6H (gotB L) bed day out j)
  have hu1:=a0Q _ N 1 hund
  have hu2:=a0Q _ N 2 hund
  have hsp:=f2Y (Γ:=Γ) b hs L (.sl .nil 9 []) rfl rfl bed hb day (by omega) out (b.g.lo+j) (by omega)
  have hnr:=e9g hs (gotB L) bed day (b.g.lo+j) (by omega)
  have hsl:=hnr.1
  have hsw:=f3O (bed:Int) (day:Int) out (b.g.lo+j) hsl
  have hk5:=f4u hsl (f2p b (gotB L) (show bed<5 by omega) (day:=day) (b.g.lo+j))
  have hiv:[ci (-1),ci (-1),ci (-1),ci (-1),ci (-1)]=iv e5Q:=rfl
  have hcl:(e9u (bed:Int) day out (b.g.lo+j) (b.spread (gotB L) bed day (b.g.lo+j))).l.map (fun x=>ci x)=iv (b.spread (gotB L) bed day (b.g.lo+j)):=by rw [f0n hsl];rfl
  have hR:=f2z (Γ:=Γ) b hs L (.sl .nil 9 []) rfl _ (f2C hs (gotB L) bed day out (b.g.lo+j) hd ho)
  have hcw:[ci (bed:Int),ci (day:Int),ci out,ci (b.g.lo+j),ci 0,ci 0,ci 0,ci 0,ci 0]=(cw (bed:Int) day out (b.g.lo+j)).c:=rfl
  have hsla:=e7O _ 5 hsl
  have hna:=e7O e5Q 5 rfl
  have hT:(ts++b.e6H (gotB L) bed day out j).length<=200:=by rw [List.length_append];omega
  simp only [CBook.e6H, ← List.append_assoc]
  generalize ts++b.e6H (gotB L) bed day out j=T at *
  cases hr:b.right (b.e7P (gotB L) bed day out (b.g.lo+j)) with
  | false =>
   rw [hr] at hR
   simp only [CBook.e7P] at hR
   simp only [Bool.false_eq_true,if_false,List.append_nil]
   (simp only [go_sem,simprocAttr,e5a,hlen,a0E,hl1,hle,hjw,hu1,hu2,hund,hcw,hsp,hsl,hsla,hna,hsw,hiv,hcl,hk5,hR];repeat' ((first|refine brY ?_|refine brN ?_|refine brA ?_|refine brD ?_|refine brF ?_);(try simp only [go_sem,simprocAttr,e5a,hlen,a0E,hl1,hle,hjw,hu1,hu2,hund,hcw,hsp,hsl,hsla,hna,hsw,hiv,hcl,hk5,hR])))
  | true =>
   rw [hr] at hR
   have hy:=hY.yield T (b.e7P (gotB L) bed day out (b.g.lo+j)) [.var [ci bed,ci day],.var (b.e7P (gotB L) bed day out (b.g.lo+j)).c] hT (by simp [go_sem])
   have hlen2:=hY.len (T++[b.e7P (gotB L) bed day out (b.g.lo+j)])
   have hund2:=hY.und (T++[b.e7P (gotB L) bed day out (b.g.lo+j)])
   have hu21:=a0Q _ N 1 hund2
   have hu22:=a0Q _ N 2 hund2
   simp only [if_true]
   simp only [CBook.e7P] at hR hy hlen2 hund2 hu21 hu22 ⊢
   (simp only [go_sem,simprocAttr,e5a,hlen,a0E,hl1,hlen2,hle,hjw,hu1,hu2,hund,hu21,hu22,hund2,hcw,hsp,hsl,hsla,hna,hsw,hiv,hcl,hk5,hR,hy];repeat' ((first|refine brY ?_|refine brN ?_|refine brA ?_|refine brD ?_|refine brF ?_);(try simp only [go_sem,simprocAttr,e5a,hlen,a0E,hl1,hlen2,hle,hjw,hu1,hu2,hund,hu21,hu22,hund2,hcw,hsp,hsl,hsla,hna,hsw,hiv,hcl,hk5,hR,hy])))
 ·intro _ _
  have hle:=decide_eq_false (show ¬ b.g.lo+(b.g.many:Int)<=b.g.hi by omega)
  have hlen:=hY.len (ts++b.e6H (gotB L) bed day out b.g.many)
  have hund:=hY.und (ts++b.e6H (gotB L) bed day out b.g.many)
  have hu1:=a0Q _ N 1 hund
  simp only [go_sem,simprocAttr,e5a,hlen,a0E,hl1,hle,hund,hu1]
theorem f3c (b:CBook) (hs:CSane b) (L:List (Int × Int × Bool)) (G:List Cold->List Obj) (N l:Nat) (hY:Yields Γ G N l) (bed day:Nat) (hb:(bed:Int)<b.beds) (hd:(day:Int)<b.days) (ts:List Cold) (hts:ts.length<=180) (e til:Int) {β:Type} (Q:Ex->St->Option β) :
 E Γ e7M ⟨[(0,.sc (.fn (.yield l) [] [] [])),(1,.sc (.eptr (bcC b L (.sl .nil 9 [])) 0)),(3,.sc (rgt b L)),(4,vi bed),(6,.sc (.ptr N 0)),(7,vi b.o.lo),(14,vi e),(15,vi bed),(28,vi til),(29,vi day)],G ts++[.var [ci bed,ci day]]⟩ Q =
 Q (.exit 4) ⟨[(0,.sc (.fn (.yield l) [] [] [])),(1,.sc (.eptr (bcC b L (.sl .nil 9 [])) 0)),(3,.sc (rgt b L)),(4,vi bed),(6,.sc (.ptr N 0)),(7,vi (b.o.lo+b.o.many)),(14,vi e),(15,vi bed),(28,vi til),(29,vi day),(55,vb false)],G (ts++b.outN (gotB L) bed day b.o.many)++[.var [ci bed,ci day]]⟩:=by
 have hg:=hs.g1;have ho:=hs.o1
 have hm:(b.o.many:Int)=b.o.hi - b.o.lo+1:=by simp only [Span.many];omega
 have hl1:l<N+1:=by have:=hY.yl;omega
 refine a4q b.o.many (fun j (_:Unit)=>⟨[(0,.sc (.fn (.yield l) [] [] [])),(1,.sc (.eptr (bcC b L (.sl .nil 9 [])) 0)),(3,.sc (rgt b L)),(4,vi bed),(6,.sc (.ptr N 0)),(7,vi (b.o.lo+j)),(14,vi e),(15,vi bed),(28,vi til),(29,vi day)],G (ts++b.outN (gotB L) bed day j)++[.var [ci bed,ci day]]⟩) (fun _ _=>True)
  (fun _=>(.exit 4,⟨[(0,.sc (.fn (.yield l) [] [] [])),(1,.sc (.eptr (bcC b L (.sl .nil 9 [])) 0)),(3,.sc (rgt b L)),(4,vi bed),(6,.sc (.ptr N 0)),(7,vi (b.o.lo+b.o.many)),(14,vi e),(15,vi bed),(28,vi til),(29,vi day),(55,vb false)],G (ts++b.outN (gotB L) bed day b.o.many)++[.var [ci bed,ci day]]⟩)) () (by simp [CBook.outN]) trivial ?_ ?_ (fun _ _=>rfl)
 ·intro j _ hj _
  refine ⟨(),trivial,?_⟩
  have hle:=decide_eq_true (show b.o.lo+(j:Int)<=b.o.hi by omega)
  have hjw:IntKind.i64.wrap (b.o.lo+(j:Int)+1)=b.o.lo+((j+1:Nat):Int):=by rw [wrap_i64 (by omega) (by omega)];omega
  have hol:=e9r hs (gotB L) bed day j
  have hT:(ts++b.outN (gotB L) bed day j).length<=190:=by rw [List.length_append];omega
  simp only [CBook.outN, ← List.append_assoc]
  generalize ts++b.outN (gotB L) bed day j=T at *
  have h3 {β:Type} (Q:Ex->St->Option β):=f3d (Γ:=Γ) b hs L G N l hY bed day hb hd (b.o.lo+j) (by omega) T hT e til Q
  have hlen:=hY.len T
  have hund:=hY.und T
  have hu1:=a0Q _ N 1 hund
  generalize hT2:T++b.e6H (gotB L) bed day (b.o.lo+j) b.g.many=T2 at *
  have hlen2:=hY.len T2
  have hund2:=hY.und T2
  have hu21:=a0Q _ N 1 hund2
  (simp only [go_sem,simprocAttr,e5s,hlen,a0E,hlen2,hl1,hle,hjw,hu1,hund,hu21,hund2,h3];repeat' ((first|refine brY ?_|refine brN ?_|refine brA ?_|refine brD ?_|refine brF ?_);(try simp only [go_sem,simprocAttr,e5s,hlen,a0E,hlen2,hl1,hle,hjw,hu1,hund,hu21,hund2,h3])))
 ·intro _ _
  have hle:=decide_eq_false (show ¬ b.o.lo+(b.o.many:Int)<=b.o.hi by omega)
  have hlen:=hY.len (ts++b.outN (gotB L) bed day b.o.many)
  have hund:=hY.und (ts++b.outN (gotB L) bed day b.o.many)
  have hu1:=a0Q _ N 1 hund
  simp only [go_sem,simprocAttr,e5s,hlen,a0E,hl1,hle,hund,hu1]
theorem f3b (b:CBook) (hs:CSane b) (L:List (Int × Int × Bool)) (G:List Cold->List Obj) (N l:Nat) (hY:Yields Γ G N l) (bed:Nat) (hb:(bed:Int)<b.beds) (nt:Nat) (hnt:b.til+1=nt) (ts:List Cold) (hts:ts.length<=140) (e:Int) {β:Type} (Q:Ex->St->Option β) :
 E Γ e7L ⟨[(0,.sc (.fn (.yield l) [] [] [])),(1,.sc (.eptr (bcC b L (.sl .nil 9 [])) 0)),(3,.sc (rgt b L)),(4,vi bed),(14,vi e),(15,vi bed),(28,vi nt),(29,vi 0)],G ts⟩ Q =
 Q (.exit 2) ⟨[(0,.sc (.fn (.yield l) [] [] [])),(1,.sc (.eptr (bcC b L (.sl .nil 9 [])) 0)),(3,.sc (rgt b L)),(4,vi bed),(14,vi e),(15,vi bed),(28,vi nt),(29,vi nt),(30,vb false)],G (ts++b.dayL (gotB L) bed nt)⟩:=by
 have ht:=hs.t0;have hd6:=hs.d1;have hb5:=hs.b1
 have hl0:=hY.yl
 have hl1:l<N+1:=by omega
 refine a4q nt (fun j (_:Unit)=>⟨[(0,.sc (.fn (.yield l) [] [] [])),(1,.sc (.eptr (bcC b L (.sl .nil 9 [])) 0)),(3,.sc (rgt b L)),(4,vi bed),(14,vi e),(15,vi bed),(28,vi nt),(29,vi j)],G (ts++b.dayL (gotB L) bed j)⟩) (fun _ _=>True)
  (fun _=>(.exit 2,⟨[(0,.sc (.fn (.yield l) [] [] [])),(1,.sc (.eptr (bcC b L (.sl .nil 9 [])) 0)),(3,.sc (rgt b L)),(4,vi bed),(14,vi e),(15,vi bed),(28,vi nt),(29,vi nt),(30,vb false)],G (ts++b.dayL (gotB L) bed nt)⟩)) () (by simp [CBook.dayL]) trivial ?_ ?_ (fun _ _=>rfl)
 ·intro j _ hj _
  refine ⟨(),trivial,?_⟩
  have hlt:=decide_eq_true (show (j:Int)<nt by omega)
  have hjw:IntKind.i64.wrap ((j:Int)+1)=j+1:=wrap_i64 (by omega) (by omega)
  have hol:=e9k hs (gotB L) bed j
  have hT:(ts++b.dayL (gotB L) bed j).length<=180:=by rw [List.length_append];omega
  simp only [CBook.dayL]
  generalize hTe:ts++b.dayL (gotB L) bed j=T at *
  have hlen:=hY.len T
  have hund:=hY.und T
  have hu1:=a0Q _ N 1 hund
  have hk:=b4A (bed:Int) j (-1) (-1)
  have hkf:(decide ((bed:Int) = -1)&&decide ((j:Int) = -1))=false:=by rw [decide_eq_false (show ¬ (bed:Int) = -1 by omega),Bool.false_and]
  rw [hkf] at hk
  cases hA:gotB L bed j with
  | true =>
   simp only [if_true,List.append_nil,hTe]
   simp only [go_sem,simprocAttr,e4Z,hlen,a0E,hl0,hl1,hlt,hjw,hu1,hund,hk,hA]
   rfl
  | false =>
   have h2 {β:Type} (Q:Ex->St->Option β):=f3c (Γ:=Γ) b hs L G N l hY bed j hb (by omega) T hT e nt Q
   simp only [Bool.false_eq_true,if_false, ← List.append_assoc,hTe]
   generalize T++b.outN (gotB L) bed j b.o.many=T2 at *
   have hlen2:=hY.len T2
   have hund2:=hY.und T2
   have hu21:=a0Q _ N 1 hund2
   simp only [go_sem,simprocAttr,e4Z,hlen,a0E,hlen2,hl0,hl1,hlt,hjw,hu1,hund,hu21,hund2,hk,hA,h2]
   rfl
 ·intro _ _
  have hlt:=decide_eq_false (show ¬ (nt:Int)<nt by omega)
  have hlen:=hY.len (ts++b.dayL (gotB L) bed nt)
  have hund:=hY.und (ts++b.dayL (gotB L) bed nt)
  simp only [go_sem,simprocAttr,e4Z,hlen,a0E,hl0,hlt,hund]
theorem f3a (b:CBook) (hs:CSane b) (L:List (Int × Int × Bool)) (G:List Cold->List Obj) (N l:Nat) (hY:Yields Γ G N l) (nb:Nat) (hnb:b.beds=nb) {β:Type} (Q:Ex->St->Option β) :
 E Γ e7K ⟨[(0,.sc (.fn (.yield l) [] [] [])),(1,.sc (.eptr (bcC b L (.sl .nil 9 [])) 0)),(3,.sc (rgt b L)),(14,vi nb),(15,vi 0)],G []⟩ Q =
 Q (.exit 0) ⟨[(0,.sc (.fn (.yield l) [] [] [])),(1,.sc (.eptr (bcC b L (.sl .nil 9 [])) 0)),(3,.sc (rgt b L)),(14,vi nb),(15,vi nb),(16,vb false)],G (b.ways (gotB L))⟩:=by
 have ht:=hs.t0;have hd6:=hs.d1;have hb5:=hs.b1
 have hl0:=hY.yl
 obtain ⟨nt,hnt⟩:∃ nt:Nat,b.til+1=nt:=⟨(b.til+1).toNat,by omega⟩
 have htw:IntKind.i64.wrap (b.til+1)=nt:=by rw [wrap_i64 (by omega) (by omega),hnt]
 have hnbt:b.beds.toNat=nb:=by omega
 have hntt:(b.til+1).toNat=nt:=by omega
 have hw:b.ways (gotB L)=[]++b.bedL (gotB L) nb:=by rw [List.nil_append,CBook.ways,hnbt]
 rw [hw]
 refine a4q nb (fun i (_:Unit)=>⟨[(0,.sc (.fn (.yield l) [] [] [])),(1,.sc (.eptr (bcC b L (.sl .nil 9 [])) 0)),(3,.sc (rgt b L)),(14,vi nb),(15,vi i)],G ([]++b.bedL (gotB L) i)⟩) (fun _ _=>True)
  (fun _=>(.exit 0,⟨[(0,.sc (.fn (.yield l) [] [] [])),(1,.sc (.eptr (bcC b L (.sl .nil 9 [])) 0)),(3,.sc (rgt b L)),(14,vi nb),(15,vi nb),(16,vb false)],G ([]++b.bedL (gotB L) nb)⟩)) () (by simp [CBook.bedL]) trivial ?_ ?_ (fun _ _=>rfl)
 ·intro i _ hi _
  refine ⟨(),trivial,?_⟩
  have hlt:=decide_eq_true (show (i:Int)<nb by omega)
  have hiw:IntKind.i64.wrap ((i:Int)+1)=i+1:=wrap_i64 (by omega) (by omega)
  have hol:=e9j hs (gotB L) i
  have hT:([]++b.bedL (gotB L) i).length<=140:=by rw [List.nil_append];omega
  simp only [CBook.bedL,hntt]
  generalize hTe:([]++b.bedL (gotB L) i:List Cold)=T at *
  have hlen:=hY.len T
  have hund:=hY.und T
  have htk:(G T).take N=G T:=List.take_of_length_le (by omega)
  have hi0:=decide_eq_false (show ¬ (i:Int)<0 by omega)
  have hmin:Nat.min i IntKind.i64.bits=i:=Nat.min_eq_left (show i<=64 by omega)
  have hmin2:Nat.min i 64=i:=Nat.min_eq_left (by omega)
  have hb1:decide (a5l .i64 (BitVec.ofInt 64 (b.begins.fdiv (2 ^ i)) &&& BitVec.ofInt 64 1)=0)=b.clean i:=rfl
  have hb2:decide (a5l .i64 (BitVec.ofInt IntKind.i64.bits (b.begins.fdiv (2 ^ i)) &&& BitVec.ofInt IntKind.i64.bits 1)=0)=b.clean i:=rfl
  cases hc:b.clean i with
  | true =>
   rw [hc] at hb1 hb2
   simp only [if_true,List.append_nil,hTe]
   simp only [go_sem,simprocAttr,e4Y,hlen,a0E,htk,hl0,hlt,hiw,hund,hi0,hmin,hmin2,hb1,hb2]
   rfl
  | false =>
   rw [hc] at hb1 hb2
   have h1 {β:Type} (Q:Ex->St->Option β):=f3b (Γ:=Γ) b hs L G N l hY i (by omega) nt hnt T hT nb Q
   simp only [Bool.false_eq_true,if_false, ← List.append_assoc,hTe]
   generalize T++b.dayL (gotB L) i nt=T2 at *
   have hlen2:=hY.len T2
   have hund2:=hY.und T2
   have htk2:(G T2).take N=G T2:=List.take_of_length_le (by omega)
   simp only [go_sem,simprocAttr,e4Y,hlen,a0E,htk,htk2,hlen2,hl0,hlt,hiw,htw,hund,hund2,hi0,hmin,hmin2,hb1,hb2,h1]
   rfl
 ·intro _ _
  have hlt:=decide_eq_false (show ¬ (nb:Int)<nb by omega)
  have hlen:=hY.len ([]++b.bedL (gotB L) nb)
  have hund:=hY.und ([]++b.bedL (gotB L) nb)
  simp only [go_sem,simprocAttr,e4Y,hlen,a0E,hl0,hlt,hund]
end
end Go.Pm.St
namespace Go.Pm.St
open Ac
def C13h (b:CBook) (h m t:C):List C:=[ci b.beds,ci b.days,ci b.begins,ci b.til,ci b.o.lo,ci b.o.hi,ci b.g.lo,ci b.g.hi,.sl b.km 2 (b.moves.map Move.c),ci b.rooms,h,m,t]
section
variable (b:CBook) (h m t:C)
@[go_sem] theorem f7D:(C13h b h m t)[1]?=some (ci b.days):=nrfl rfl
@[go_sem] theorem f7l:(C13h b h m t)[10]?=some h:=nrfl rfl
@[go_sem] theorem f7m:(C13h b h m t)[11]?=some m:=nrfl rfl
@[go_sem] theorem f7n:(C13h b h m t)[12]?=some t:=nrfl rfl
@[go_sem] theorem f6R:(C13h b h m t).length=13:=nrfl rfl
@[go_sem] theorem f6Q:a0R (C13h b h m t) 0 13=some (C13h b h m t):=nrfl rfl
@[go_sem] theorem f7o:(C13h b h m t).map a0r=C13h b (a0r h) (a0r m) (a0r t):=nrfl rfl
@[go_sem] theorem f3X (c:C):a1H (C13h b h m t) 10 [c]=C13h b c m t:=nrfl rfl
@[go_sem] theorem f4J (c:C):(C13h b h m t).set 10 c=C13h b c m t:=nrfl rfl
@[go_sem] theorem f3Z (c:C):a1H (C13 b m t) 10 [c]=C13h b c m t:=nrfl rfl
@[go_sem] theorem f6t (c:C):(C13 b m t).set 10 c=C13h b c m t:=nrfl rfl
@[go_sem] theorem f4K (c:C):(C13h b h m t).set 12 c=C13h b h m c:=nrfl rfl
@[go_sem] theorem f3Y (c:C):a1H (C13h b h m t) 12 [c]=C13h b h m c:=nrfl rfl
@[go_sem] theorem f4L (n:Nat):C.a0G n (C13h b h m t)=C.a0G n [h,m,t]:=nrfl rfl
@[go_sem] theorem f6x:C.a0v (C13h b h m t)=C.a0v [h,m,t]:=nrfl rfl
end
def Z13:List C:=[ci 0,ci 0,ci 0,ci 0,ci 0,ci 0,ci 0,ci 0,.sl .nil 2 [],ci 0,.sl .nil 3 [],.imap true false [],.sl .nil 9 []]
def e7J (L:List (Int × Int × Bool)) (bed day:Int):Nat->List (Int × Int × Bool)
 | 0=>L
 | n+1=>putB (e7J L bed day n) bed (day+n) true
def CBook.e7o (b:CBook):Nat->List (Int × Int × Bool)
 | 0=>[(-1, -1,true)]
 | j+1=>match b.moves[j]? with
  | some x=>e7J (b.e7o j) x.bed x.day (b.days - x.day).toNat
  | none=>b.e7o j
def CBook.e7p (b:CBook):List (Int × Int × Bool):=b.e7o b.moves.length
theorem f0c (b:CBook) {j:Nat} {x:Move} (hx:b.moves[j]?=some x):b.e7o (j+1)=e7J (b.e7o j) x.bed x.day (b.days - x.day).toNat:=by simp only [CBook.e7o,hx]
section
variable {Γ:Env} [P04 Γ] [G04 Γ] [GCo Γ]
theorem f1p (b:CBook) [hb:b.Fits] (hs:CSane b) (z:Obj) (hz:∀ n,z.under n=true) (L:List (Int × Int × Bool)) {β:Type} (Q:Ex->St->Option β) :
 E Γ e8y ⟨[(1,.sc (.sl .nil 1 [])),(2,.sc (.ptr 0 0)),(4,.sc (.ptr 1 0)),(5,.sc (.ptr 3 0)),(20,.sc (.sl b.kh 3 (b.heard.map Hear.c))),(21,vi b.heard.length),(22,vi 0)],[.var b.c,z,.map true false (encB L) none,.var (C13h b (.sl .nil 3 []) (.map 2) (.sl .nil 9 []))]⟩ Q =
 Q (.exit 0) ⟨[(1,.sc (.sl .nil 1 [])),(2,.sc (.ptr 0 0)),(4,.sc (.ptr 1 0)),(5,.sc (.ptr 3 0)),(20,.sc (.sl b.kh 3 (b.heard.map Hear.c))),(21,vi b.heard.length),(22,vi b.heard.length),(23,vb false)],[.var b.c,z,.map true false (encB L) none,.var (C13h b (ownC 3 (b.heard.map Hear.c)) (.map 2) (.sl .nil 9 []))]⟩:=by
 have h4:=hs.h4
 have hct (n:Int):=contains_k (Γ:=Γ) .nil [] n (by simp)
 simp only [List.map_nil] at hct
 refine (a4Q (fun j=>⟨[(1,.sc (.sl .nil 1 [])),(2,.sc (.ptr 0 0)),(4,.sc (.ptr 1 0)),(5,.sc (.ptr 3 0)),(20,.sc (.sl b.kh 3 (b.heard.map Hear.c))),(21,vi b.heard.length),(22,vi j)],[.var b.c,z,.map true false (encB L) none,.var (C13h b (ownC 3 ((b.heard.take j).map Hear.c)) (.map 2) (.sl .nil 9 []))]⟩) b.heard
  (.exit 0,⟨[(1,.sc (.sl .nil 1 [])),(2,.sc (.ptr 0 0)),(4,.sc (.ptr 1 0)),(5,.sc (.ptr 3 0)),(20,.sc (.sl b.kh 3 (b.heard.map Hear.c))),(21,vi b.heard.length),(22,vi b.heard.length),(23,vb false)],[.var b.c,z,.map true false (encB L) none,.var (C13h b (ownC 3 (b.heard.map Hear.c)) (.map 2) (.sl .nil 9 []))]⟩) Q ?_ ?_ ?_).trans ?_
 ·rfl
 ·intro j x hx
  have hj:=(List.getElem?_eq_some_iff.1 hx).1
  have hlt:=decide_eq_true (show (j:Int)<b.heard.length by omega)
  have hjw:IntKind.i64.wrap ((j:Int)+1)=j+1:=wrap_i64 (by omega) (by omega)
  have happ:=a2K 3 ((b.heard.take j).map Hear.c) .full x.c (by simp only [List.length_map,List.length_take,room];omega)
  have hc0:([]:List Int).contains (j:Int)=false:=rfl
  rw [take_snoc hx,List.map_append,List.map_cons,List.map_nil]
  (simp only [go_sem,simprocAttr,e5T,hx,hlt,hjw,hct,hc0,happ,hz,List.length_map];repeat' ((first|refine brY ?_|refine brN ?_|refine brA ?_|refine brD ?_|refine brF ?_);(try simp only [go_sem,simprocAttr,e5T,hx,hlt,hjw,hct,hc0,happ,hz,List.length_map])))
  rfl
 ·have hlt:=decide_eq_false (show ¬ (b.heard.length:Int)<b.heard.length by omega)
  rw [List.take_length]
  (simp only [go_sem,simprocAttr,e5T,hlt,hz];repeat' ((first|refine brY ?_|refine brN ?_|refine brA ?_|refine brD ?_|refine brF ?_);(try simp only [go_sem,simprocAttr,e5T,hlt,hz])))
 ·rfl
theorem f1r (b:CBook) [hb:b.Fits] (hs:CSane b) (z:Obj) (hz:∀ n,z.under n=true) (hc:C) (hcu:∀ n,C.under n hc=true) (x:Move) (hx:x∈b.moves) (L:List (Int × Int × Bool)) (e1 e2:Int) {β:Type} (Q:Ex->St->Option β) :
 E Γ e8A ⟨[(2,.sc (.ptr 0 0)),(4,.sc (.ptr 1 0)),(5,.sc (.ptr 3 0)),(9,.sc (.ptr 4 0)),(10,vi x.day),(41,.sc (.sl b.km 2 (b.moves.map Move.c))),(42,vi e1),(43,vi e2)],[.var b.c,z,.map true false (encB L) none,.var (C13h b hc (.map 2) (.sl .nil 9 [])),.var x.c]⟩ Q =
 Q (.exit 4) ⟨[(2,.sc (.ptr 0 0)),(4,.sc (.ptr 1 0)),(5,.sc (.ptr 3 0)),(9,.sc (.ptr 4 0)),(10,vi b.days),(41,.sc (.sl b.km 2 (b.moves.map Move.c))),(42,vi e1),(43,vi e2),(52,vb false)],[.var b.c,z,.map true false (encB (e7J L x.bed x.day (b.days - x.day).toNat)) none,.var (C13h b hc (.map 2) (.sl .nil 9 [])),.var x.c]⟩:=by
 obtain ⟨h1,h2⟩:=hs.mv x hx
 have hd6:=hs.d1
 obtain ⟨n,hn⟩:∃ n:Nat,(b.days - x.day).toNat=n:=⟨_,rfl⟩
 have hend:b.days=x.day+n:=by omega
 rw [hn]
 refine a4q n (fun j (_:Unit)=>⟨[(2,.sc (.ptr 0 0)),(4,.sc (.ptr 1 0)),(5,.sc (.ptr 3 0)),(9,.sc (.ptr 4 0)),(10,vi (x.day+j)),(41,.sc (.sl b.km 2 (b.moves.map Move.c))),(42,vi e1),(43,vi e2)],[.var b.c,z,.map true false (encB (e7J L x.bed x.day j)) none,.var (C13h b hc (.map 2) (.sl .nil 9 [])),.var x.c]⟩) (fun _ _=>True)
  (fun _=>(.exit 4,⟨[(2,.sc (.ptr 0 0)),(4,.sc (.ptr 1 0)),(5,.sc (.ptr 3 0)),(9,.sc (.ptr 4 0)),(10,vi b.days),(41,.sc (.sl b.km 2 (b.moves.map Move.c))),(42,vi e1),(43,vi e2),(52,vb false)],[.var b.c,z,.map true false (encB (e7J L x.bed x.day n)) none,.var (C13h b hc (.map 2) (.sl .nil 9 [])),.var x.c]⟩)) () (by simp [e7J]) trivial ?_ ?_ (fun _ _=>rfl)
 ·intro j _ hj _
  refine ⟨(),trivial,?_⟩
  have hlt:=decide_eq_true (show x.day+(j:Int)<b.days by omega)
  have hjw:IntKind.i64.wrap (x.day+(j:Int)+1)=x.day+((j+1:Nat):Int):=by rw [wrap_i64 (by omega) (by omega)];omega
  simp only [e7J]
  simp only [go_sem,simprocAttr,e5V,hlt,hjw,hz,hcu]
 ·intro _ _
  have hlt:=decide_eq_false (show ¬ b.days<b.days by omega)
  rw [← hend]
  simp only [go_sem,simprocAttr,e5V,hlt,hz,hcu]
theorem f1q (b:CBook) [hb:b.Fits] (hs:CSane b) (z:Obj) (hz:∀ n,z.under n=true) (hc:C) (hcu:∀ n,C.under n hc=true) {β:Type} (Q:Ex->St->Option β) :
 E Γ e8z ⟨[(2,.sc (.ptr 0 0)),(4,.sc (.ptr 1 0)),(5,.sc (.ptr 3 0)),(41,.sc (.sl b.km 2 (b.moves.map Move.c))),(42,vi b.moves.length),(43,vi 0)],[.var b.c,z,.map true false (encB [(-1, -1,true)]) none,.var (C13h b hc (.map 2) (.sl .nil 9 []))]⟩ Q =
 Q (.exit 2) ⟨[(2,.sc (.ptr 0 0)),(4,.sc (.ptr 1 0)),(5,.sc (.ptr 3 0)),(41,.sc (.sl b.km 2 (b.moves.map Move.c))),(42,vi b.moves.length),(43,vi b.moves.length),(44,vb false)],[.var b.c,z,.map true false (encB b.e7p) none,.var (C13h b hc (.map 2) (.sl .nil 9 []))]⟩:=by
 have h3:=hs.m3
 refine (a4Q (fun j=>⟨[(2,.sc (.ptr 0 0)),(4,.sc (.ptr 1 0)),(5,.sc (.ptr 3 0)),(41,.sc (.sl b.km 2 (b.moves.map Move.c))),(42,vi b.moves.length),(43,vi j)],[.var b.c,z,.map true false (encB (b.e7o j)) none,.var (C13h b hc (.map 2) (.sl .nil 9 []))]⟩) b.moves
  (.exit 2,⟨[(2,.sc (.ptr 0 0)),(4,.sc (.ptr 1 0)),(5,.sc (.ptr 3 0)),(41,.sc (.sl b.km 2 (b.moves.map Move.c))),(42,vi b.moves.length),(43,vi b.moves.length),(44,vb false)],[.var b.c,z,.map true false (encB b.e7p) none,.var (C13h b hc (.map 2) (.sl .nil 9 []))]⟩) Q ?_ ?_ ?_).trans ?_
 ·rfl
 ·intro j x hx
  have hj:=(List.getElem?_eq_some_iff.1 hx).1
  have hlt:=decide_eq_true (show (j:Int)<b.moves.length by omega)
  have hjw:IntKind.i64.wrap ((j:Int)+1)=j+1:=wrap_i64 (by omega) (by omega)
  have h2 {β:Type} (Q:Ex->St->Option β):=f1r (Γ:=Γ) b hs z hz hc hcu x (List.mem_of_getElem? hx) (b.e7o j) b.moves.length j Q
  rw [f0c b hx]
  (simp only [go_sem,simprocAttr,e5U,hx,hlt,hjw,h2,hz,hcu,List.length_map];repeat' ((first|refine brY ?_|refine brN ?_|refine brA ?_|refine brD ?_|refine brF ?_);(try simp only [go_sem,simprocAttr,e5U,hx,hlt,hjw,h2,hz,hcu,List.length_map])))
  rfl
 ·have hlt:=decide_eq_false (show ¬ (b.moves.length:Int)<b.moves.length by omega)
  (simp only [go_sem,simprocAttr,e5U,hlt,hz,hcu];repeat' ((first|refine brY ?_|refine brN ?_|refine brA ?_|refine brD ?_|refine brF ?_);(try simp only [go_sem,simprocAttr,e5U,hlt,hz,hcu])))
  rfl
 ·rfl
end
end Go.Pm.St
namespace Go.Pm.St
open Ac
abbrev e8e (ts:List Cold):C:=ownC 9 (ts.map Cold.c)
def CBook.re (b:CBook):CBook:={ b with kh:=kS b.heard }
theorem f0W (b:CBook):a0r (ownC 3 (b.heard.map Hear.c))=.sl (kS b.heard) 3 (b.heard.map Hear.c):=by
 rw [a9I];cases b.heard<;>rfl
theorem f3M {b:CBook} (hs:CSane b):CSane b.re:=⟨hs.b1,hs.d1,hs.t0,hs.o1,hs.g1,hs.m3,hs.h4,hs.bg,hs.mv,hs.hd⟩
theorem f2U (b:CBook) (w:Cold):b.re.right w=b.right w:=rfl
theorem f3N (b:CBook) (A:Int->Int->Bool):b.re.ways A=b.ways A:=by
 have h1:∀ bed day out j,b.re.e6H A bed day out j=b.e6H A bed day out j:=fun bed day out j=>by
  induction j with
  | zero=>rfl
  | succ j ih=>simp only [CBook.e6H,ih,f2U];rfl
 have h2:∀ bed day j,b.re.outN A bed day j=b.outN A bed day j:=fun bed day j=>by
  induction j with
  | zero=>rfl
  | succ j ih=>simp only [CBook.outN,ih,h1];rfl
 have h3:∀ bed d,b.re.dayL A bed d=b.dayL A bed d:=fun bed d=>by
  induction d with
  | zero=>rfl
  | succ d ih=>simp only [CBook.dayL,ih,h2];rfl
 have h4:∀ i,b.re.bedL A i=b.bedL A i:=fun i=>by
  induction i with
  | zero=>rfl
  | succ i ih=>simp only [CBook.bedL,ih,h3];rfl
 exact h4 _
def CBook.now (b:CBook):List Cold:=b.ways (gotB b.e7p)
abbrev CBook.oc (b:CBook) (t:C):List C:=bcC b.re b.e7p t
theorem e8G (t:List (Nat × V)) (ht:get t 5=.sc (.ptr 3 0)) (x0 x1:Obj) (l:List (List C × List C)) (b:CBook) (L:List (List C)) :
 a3G 5 ⟨t,[x0,x1,.map true false l none,.var (C13h b (ownC 3 L) (.map 2) (.sl .nil 9 []))]⟩=some ⟨t,[x0,x1,.dead,.var (C13h b (ownC 3 L) (.imap true false l) (.sl .nil 9 []))]⟩:=by
 unfold a3G
 rw [ht]
 cases L<;>rfl
section
variable {Γ:Env} [P04 Γ] [G04 Γ] [GCo Γ]
theorem f0e {β:Type} (s:St) (Q:Ex->St->Option β):E Γ e6O s Q=E Γ ((.region 1 [
 I 0 11 (.alloc 0 [.int .i64 0,.int .i64 0,.int .i64 0,.int .i64 0,.int .i64 0,.int .i64 0,.int .i64 0,.int .i64 0,.int .i64 0]),
 J 1 (.store 9 (.t 11) (.t 64))] false [5,11])) s Q:=rfl
theorem f0f {β:Type} (s:St) (Q:Ex->St->Option β):E Γ e6P s Q=E Γ ((.block 7 (.region 0 [
 I 0 65 (oF 12 5),
 I 1 66 (.loadT (.t 65)),
 I 2 67 (oS 9 11),
 I 3 68 (.bslice 9 1 [.int .i64 0,.int .i64 0,.int .i64 0,.int .i64 0,.int .i64 0,.int .i64 0,.int .i64 0,.int .i64 0,.int .i64 0] [(0,.t 67)]),
 I 4 69 (.append 9 (.tk 66) (.t 68)),
 I 5 70 (oF 12 5),
 J 6 (.store 1 (.t 70) (.tk 69))] false []))) s Q:=rfl
def e8p (b:CBook):List (Nat × V):=[(4,.sc (.ptr 1 0)),(5,.sc (.ptr 3 0)),(63,.sc (.fn (.fn 321) [] [] [.eptr (b.oc (.sl .nil 9 [])) 0]))]
def heapC (b:CBook) (ts:List Cold):List Obj :=
 [.var b.c,.var Z13,.dead,.var (C13h b (ownC 3 (b.heard.map Hear.c)) (.imap true false (encB b.e7p)) (e8e ts)),.loop .ready none (e8p b) [64] e6O e6P]
theorem f2B (b:CBook) (H:List Obj) (M:Nat) (ts:List Cold) (hts:ts.length<=200) (hn:H.length=M) (h5:5<=M)
 (h3:H[3]?=some (.var (C13h b (ownC 3 (b.heard.map Hear.c)) (.imap true false (encB b.e7p)) (e8e ts)))) (h4:H[4]?=some (.loop .ready none (e8p b) [64] e6O e6P)) (hu:H.all (Obj.under M)=true) (w:Cold) :
 K Γ (.yield 4) [.agg w.c] H=some (vb true,H.set 3 (.var (C13h b (ownC 3 (b.heard.map Hear.c)) (.imap true false (encB b.e7p)) (e8e (ts++[w]))))):=by
 have hl3:3<H.length:=by omega
 have hl4:4<H.length:=by omega
 have hm1:1<M:=by omega
 have hm3:3<M:=by omega
 have hm4:4<M:=by omega
 rw [c0y]
 obtain ⟨bz,hbz⟩:∃ x,Obj.loop .busy none (e8p b) [64] e6O e6P=x:=⟨_,rfl⟩
 have hbu (n:Nat):Obj.under (n+5) bz=true:=by subst hbz;simp [e8p,Obj.under,go_sem]
 have hob {β:Type} (f:List (Nat × V)->List Nat->AC->AC->Option β):b2i (some bz) f=f (e8p b) [64] e6O e6P:=by subst hbz;rfl
 have hB3:(H.set 4 bz)[3]?=some (.var (C13h b (ownC 3 (b.heard.map Hear.c)) (.imap true false (encB b.e7p)) (e8e ts))):=by rw [a5B _ _ _ _ (by decide),h3]
 have hBu:(H.set 4 bz).all (Obj.under M)=true:=a6R _ _ _ _ hu (by rw [show M=(M - 5)+5 by omega];exact hbu _)
 have hb4 (v:Obj):((H.set 4 bz).set 3 v)[4]?=some bz:=by rw [a5B _ _ _ _ (by decide),b1c _ _ _ hl4]
 have hsb (v:Obj):=b9A H 4 3 bz v _ (by decide) h4
 have hua (l:List (List C)):(H.set 3 (.var (C13h b (ownC 3 (b.heard.map Hear.c)) (.imap true false (encB b.e7p)) (ownC 9 l)))).all (Obj.under M)=true:=a6R _ _ _ _ hu (by simp [go_sem])
 have happ:=a2K 9 (ts.map Cold.c) .full w.c (by simp only [List.length_map,room];omega)
 have hmap:(ts++[w]).map Cold.c=ts.map Cold.c++[w.c]:=by simp
 simp only [e8e,hmap]
 simp only [e8e] at hB3
 simp only [e8p] at h4 hob hsb hbz ⊢
 simp only [go_sem,simprocAttr,h4,f0e,f0f,hbz,hob,hn,a0E,hl3,hl4,hm1,hm3,hm4,hB3,hb4,hsb,hua,happ,hBu,a0Q]
theorem e8n (b:CBook) (ts:List Cold):(heapC b ts).all (Obj.under 5)=true:=by simp [heapC,e8p,Z13,go_sem]
theorem f3o (b:CBook):Yields Γ (heapC b) 5 4 where
 yl:=by decide
 len:=fun _=>rfl
 und:=e8n b
 yield:=fun ts w fr hts hfr=>by
  have h:=f2B (Γ:=Γ) b (heapC b ts++fr) (5+fr.length) ts hts (by simp [heapC];omega) (by omega) rfl rfl (by rw [List.all_append,a0Q _ 5 _ (e8n b ts),hfr];rfl) w
  exact h
theorem f2A (b:CBook) (hs:CSane b):K Γ (.fn 321) [.sc (.fn (.yield 4) [] [] []),.sc (.eptr (b.oc (.sl .nil 9 [])) 0)] (heapC b [])=some (.tup [],heapC b b.now):=by
 have hb5:=hs.b1
 obtain ⟨nb,hnb⟩:∃ nb:Nat,b.beds=nb:=⟨b.beds.toNat,by omega⟩
 have hL {β:Type} (Q:Ex->St->Option β):=f3a (Γ:=Γ) b.re (f3M hs) b.e7p (heapC b) 5 4 (f3o b) nb hnb Q
 rw [f3N] at hL
 have hnow:b.ways (gotB b.e7p)=b.now:=rfl
 rw [hnow] at hL
 have hu0:=e8n b []
 have hu1:=e8n b b.now
 have hl0:(heapC b []).length=5:=rfl
 have hl1:(heapC b b.now).length=5:=rfl
 have ht1:(heapC b b.now).take 5=heapC b b.now:=rfl
 have hbe:b.re.beds=nb:=hnb
 rw [K_fn P04.f321 _ _ rfl]
 simp only [go_sem,simprocAttr,e5Y,hl0,hl1,hu0,hu1,ht1,hbe,hL]
theorem f4N (b:CBook):K Γ (.fn 313) [.agg (b.oc (.sl .nil 9 []))] []=some (.sc (.fn (.fn 321) [] [] [.eptr (b.oc (.sl .nil 9 [])) 0]),[]):=by
 rw [K_fn P04.f313 _ _ rfl]
 simp only [go_sem,simprocAttr,e6o]
theorem e8W (b':Nat) (h:List Obj) (l:List (List C × List C)) (es:Nat) (L:List (List C)) (b:CBook):frzL b' h 128 (C13 b (.imap true false l) (a0r (ownC es L)))=some (C13 b (.imap true false l) (a0r (ownC es L))):=by
 simp only [C13,go_sem]
set_option maxHeartbeats 2000000 in
theorem e9U (b:CBook) [hb:b.Fits] (hs:CSane b):K Γ (.fn 296) [.agg b.c,.sc (.sl .nil 1 [])] []=some (.agg (b.oc (a0r (e8e b.now))),[]):=by
 have h0 {β:Type} (Q:Ex->St->Option β):=f1p (Γ:=Γ) b hs (.var Z13) (fun n=>by simp [Z13,go_sem]) [(-1, -1,true)] Q
 have h1 {β:Type} (Q:Ex->St->Option β):=f1q (Γ:=Γ) b hs (.var Z13) (fun n=>by simp [Z13,go_sem]) (ownC 3 (b.heard.map Hear.c)) (fun n=>a7C _ _ _) Q
 have hm0:e9D (some (.map true false [] none)) ⟨true,[1,1]⟩ (.agg [.int .i64 (-1),.int .i64 (-1)]) (.sc (.bool true))=some (.map true false (encB [(-1, -1,true)]) none):=f1g [] (-1) (-1) true
 have hW:=f2A (Γ:=Γ) b hs
 have hw:=f4N (Γ:=Γ) b
 have hun:=f0W b
 have hre:∀ t,C13h b (.sl (kS b.heard) 3 (b.heard.map Hear.c)) (.imap true false (encB b.e7p)) t=b.oc t:=fun t=>rfl
 simp only [Z13,heapC,e8p] at h0 h1 hW
 rw [show e8e []=C.sl .nil 9 [] from rfl] at hW
 rw [K_fn P04.f296 _ _ rfl]
 (simp only [go_sem,simprocAttr,e7b,h0,h1,hm0,e8G,hun,hre,hw,hW,e8W];repeat' ((first|refine brY ?_|refine brN ?_|refine brA ?_|refine brD ?_|refine brF ?_);(try simp only [go_sem,simprocAttr,e7b,h0,h1,hm0,e8G,hun,hre,hw,hW,e8W])))
end
end Go.Pm.St
namespace Go.Pm.St
open Ac
def CBook.err (b:CBook) (is:Bool):Int:=if b.valid then if is then if b.now.isEmpty then 32 else 0 else 31 else 30
def e8B (p:Cold->Bool) (ts:List Cold):Int:=(if 0<(ts.filter p).length then 1 else 0)+(if (ts.filter p).length=ts.length then 1 else 0)
theorem f3E {b:CBook} (hs:CSane b):b.now.length<=120:=by
 have:=e9j hs (gotB b.e7p) b.beds.toNat
 have:=hs.b1
 simp only [CBook.now,CBook.ways];omega
theorem e9I (ts:List Cold):a0r (e8e ts)=.sl (kS ts) 9 (ts.map Cold.c):=by
 rw [a9I];cases ts<;>rfl
theorem f3F (b:CBook) (ts:List Cold):C.a0v (b.oc (.sl (kS ts) 9 (ts.map Cold.c)))=true:=by simp [go_sem]
theorem e7m (b':Nat) (h:List Obj) (l:List (List C × List C)) (k:SK) (L:List (List C)) (b:CBook):frzL b' h 128 (C13 b (.imap true false l) (.sl k 9 L))=some (C13 b (.imap true false l) (.sl k 9 L)):=by
 simp only [C13,go_sem]
section
variable {Γ:Env} [P04 Γ] [G04 Γ] [GCo Γ]
theorem f4o (w:Cold) (i:Nat) (hi:i<5) (d:Int):K Γ (.fn 293) [.agg w.c,.sc (.eptr [ci i] 0),.sc (.eptr [ci d] 0)] []=some (vb (w.ill i d),[]):=by
 have h:=f4P (Γ:=Γ) w i hi d
 rw [K_fn P04.f293 _ _ rfl]
 simp only [go_sem,simprocAttr,e7f,h]
theorem f4B (m n:Int):K Γ (.fn 346) [.agg [ci m,ci n]] []=some (vb (decide (0<m)),[]):=by
 rw [K_fn P04.f346 _ _ rfl]
 simp only [go_sem,simprocAttr,e6q]
theorem f4f (m n:Int):K Γ (.fn 347) [.agg [ci m,ci n]] []=some (vb (decide (m=n)),[]):=by
 rw [K_fn P04.f347 _ _ rfl]
 simp only [go_sem,simprocAttr,e6p]
theorem f3n (b:CBook) (ts:List Cold) (hts:ts.length<=200) (i:Nat) (hi:i<5) (d:Int) :
 K Γ (.fn 294) [.agg (b.oc (.sl (kS ts) 9 (ts.map Cold.c))),.sc (.fn (.fn 293) [] [] [.eptr [ci i] 0,.eptr [ci d] 0])] []=some (vi (e8B (fun w=>w.ill i d) ts),[]):=by
 have h1:=fun w=>f4o (Γ:=Γ) w i hi d
 have hsm:=fun m n=>f4B (Γ:=Γ) m n
 have hea:=fun m n=>f4f (Γ:=Γ) m n
 have hle:∀ j,((ts.take j).filter fun w=>w.ill i d).length<=ts.length:=fun j=>Nat.le_trans (List.length_filter_le _ _) (by rw [List.length_take];omega)
 have hL {β:Type} (Q:Ex->St->Option β):E Γ e7V ⟨[(1,.sc (.fn (.fn 293) [] [] [.eptr [ci i] 0,.eptr [ci d] 0])),(5,.sc (.ptr 1 0)),(6,vi 0),(16,.sc (.sl (kS ts) 9 (ts.map Cold.c))),(17,vi ts.length),(18,vi 0)],[.var (b.oc (.sl (kS ts) 9 (ts.map Cold.c))),.var [ci 0,ci ts.length]]⟩ Q =
  Q (.exit 0) ⟨[(1,.sc (.fn (.fn 293) [] [] [.eptr [ci i] 0,.eptr [ci d] 0])),(5,.sc (.ptr 1 0)),(6,vi 0),(16,.sc (.sl (kS ts) 9 (ts.map Cold.c))),(17,vi ts.length),(18,vi ts.length),(19,vb false)],[.var (b.oc (.sl (kS ts) 9 (ts.map Cold.c))),.var [ci ((ts.filter fun w=>w.ill i d).length:Nat),ci ts.length]]⟩:=by
  refine (a4Q (fun j=>⟨[(1,.sc (.fn (.fn 293) [] [] [.eptr [ci i] 0,.eptr [ci d] 0])),(5,.sc (.ptr 1 0)),(6,vi 0),(16,.sc (.sl (kS ts) 9 (ts.map Cold.c))),(17,vi ts.length),(18,vi j)],[.var (b.oc (.sl (kS ts) 9 (ts.map Cold.c))),.var [ci (((ts.take j).filter fun w=>w.ill i d).length:Nat),ci ts.length]]⟩) ts
   (.exit 0,⟨[(1,.sc (.fn (.fn 293) [] [] [.eptr [ci i] 0,.eptr [ci d] 0])),(5,.sc (.ptr 1 0)),(6,vi 0),(16,.sc (.sl (kS ts) 9 (ts.map Cold.c))),(17,vi ts.length),(18,vi ts.length),(19,vb false)],[.var (b.oc (.sl (kS ts) 9 (ts.map Cold.c))),.var [ci ((ts.filter fun w=>w.ill i d).length:Nat),ci ts.length]]⟩) Q ?_ ?_ ?_).trans ?_
  ·rfl
  ·intro j w hw
   have hj:=(List.getElem?_eq_some_iff.1 hw).1
   have hlt:=decide_eq_true (show (j:Int)<ts.length by omega)
   have hjw:IntKind.i64.wrap ((j:Int)+1)=j+1:=wrap_i64 (by omega) (by omega)
   have hlj:=hle j
   have hnw:IntKind.i64.wrap ((((ts.take j).filter fun w=>w.ill i d).length:Int)+1)=((((ts.take j).filter fun w=>w.ill i d).length+1:Nat):Int):=by rw [wrap_i64 (by omega) (by omega)];omega
   have h2:=h1 w
   rw [take_snoc hw,List.filter_append,List.filter_cons,List.filter_nil]
   cases hp:w.ill i d with
   | true =>
    rw [hp] at h2
    simp only [if_true,List.length_append,List.length_cons,List.length_nil,Nat.zero_add]
    (simp only [go_sem,simprocAttr,e5e,hw,hlt,hjw,hnw,h2,List.length_map];repeat' ((first|refine brY ?_|refine brN ?_|refine brA ?_|refine brD ?_|refine brF ?_);(try simp only [go_sem,simprocAttr,e5e,hw,hlt,hjw,hnw,h2,List.length_map])))
    rfl
   | false =>
    rw [hp] at h2
    simp only [Bool.false_eq_true,if_false,List.append_nil]
    (simp only [go_sem,simprocAttr,e5e,hw,hlt,hjw,h2,List.length_map];repeat' ((first|refine brY ?_|refine brN ?_|refine brA ?_|refine brD ?_|refine brF ?_);(try simp only [go_sem,simprocAttr,e5e,hw,hlt,hjw,h2,List.length_map])))
    rfl
  ·have hlt:=decide_eq_false (show ¬ (ts.length:Int)<ts.length by omega)
   rw [List.take_length]
   (simp only [go_sem,simprocAttr,e5e,hlt];repeat' ((first|refine brY ?_|refine brN ?_|refine brA ?_|refine brD ?_|refine brF ?_);(try simp only [go_sem,simprocAttr,e5e,hlt])))
  ·rfl
 have hm:=hle ts.length
 rw [List.take_length] at hm
 simp only [e8B]
 generalize (ts.filter fun w=>w.ill i d).length=m at *
 by_cases h0:0<m
 ·have d0:=decide_eq_true (show (0:Int)<(m:Int) by omega)
  by_cases h2:m=ts.length
  ·have d2:=decide_eq_true (show (m:Int)=ts.length by omega)
   rw [if_pos h0,if_pos h2]
   rw [K_fn P04.f294 _ _ rfl]
   simp only [go_sem,simprocAttr,e4W,hL,hsm,hea,d0,d2,e4P,e4O,a1J,List.length_map]
  ·have d2:=decide_eq_false (show ¬ (m:Int)=ts.length by omega)
   rw [if_pos h0,if_neg h2]
   rw [K_fn P04.f294 _ _ rfl]
   simp only [go_sem,simprocAttr,e4W,hL,hsm,hea,d0,d2,e4P,e4O,a1J,List.length_map]
 ·have d0:=decide_eq_false (show ¬ (0:Int)<(m:Int) by omega)
  by_cases h2:m=ts.length
  ·have d2:=decide_eq_true (show (m:Int)=ts.length by omega)
   rw [if_neg h0,if_pos h2]
   rw [K_fn P04.f294 _ _ rfl]
   simp only [go_sem,simprocAttr,e4W,hL,hsm,hea,d0,d2,e4P,e4O,a1J,List.length_map]
  ·have d2:=decide_eq_false (show ¬ (m:Int)=ts.length by omega)
   rw [if_neg h0,if_neg h2]
   rw [K_fn P04.f294 _ _ rfl]
   simp only [go_sem,simprocAttr,e4W,hL,hsm,hea,d0,d2,e4P,e4O,a1J,List.length_map]
theorem f2w (b:CBook) [hb:b.Fits] (is:Bool):∃ cs,K Γ (.fn 292) [.agg b.c,vb is] []=some (.tup [.agg cs,vi (b.err is)],[])/\cs.length=13/\C.a0v cs=true/\cs.map a0r=cs/\(b.err is=0->cs=b.oc (.sl (kS b.now) 9 (b.now.map Cold.c))):=by
 have hc:=e8D (Γ:=Γ) b
 cases hv:b.valid with
 | false =>
  have e:b.err is=30:=by simp [CBook.err,hv]
  simp only [hv] at hc
  rw [e]
  refine ⟨Z13,?_,rfl,by simp [Z13,go_sem],by simp [Z13,go_sem],fun h=>by cases h⟩
  rw [K_fn P04.f292 _ _ rfl]
  simp only [go_sem,simprocAttr,e5r,hc,Z13]
 | true =>
  simp only [hv] at hc
  have hs:=e7y hv
  cases is with
  | false =>
   have e:b.err false=31:=by simp [CBook.err,hv]
   rw [e]
   refine ⟨Z13,?_,rfl,by simp [Z13,go_sem],by simp [Z13,go_sem],fun h=>by cases h⟩
   rw [K_fn P04.f292 _ _ rfl]
   simp only [go_sem,simprocAttr,e5r,hc,Z13]
  | true =>
   have ho:=e9U (Γ:=Γ) b hs
   rw [e9I] at ho
   have hp:=f3F b b.now
   have hu (n:Nat):C.a0G n (b.oc (.sl (kS b.now) 9 (b.now.map Cold.c)))=true:=a0C n _ hp
   refine ⟨b.oc (.sl (kS b.now) 9 (b.now.map Cold.c)),?_,rfl,hp,by simp only [go_sem],fun _=>rfl⟩
   cases hn:b.now with
   | nil =>
    have e:b.err true=32:=by simp [CBook.err,hv,hn]
    rw [e]
    rw [hn] at ho
    rw [K_fn P04.f292 _ _ rfl]
    simp only [go_sem,simprocAttr,e5r,hc,ho,e7m,List.length_nil,List.map_nil]
   | cons x l =>
    have e:b.err true=0:=by simp [CBook.err,hv,hn]
    have hne:decide (((l.length+1:Nat):Int)=0)=false:=decide_eq_false (by omega)
    rw [e]
    rw [hn] at ho
    rw [K_fn P04.f292 _ _ rfl]
    simp only [go_sem,simprocAttr,e5r,hc,ho,hne,e7m,List.length_map,List.length_cons]
theorem f2v (b:CBook) [hb:b.Fits]:K Γ (.fn 265) [.agg b.c] []=some (.tup [vb (b.valid&&!b.now.isEmpty),vi (if b.valid then 0 else 30)],[]):=by
 have hc:=e8D (Γ:=Γ) b
 cases hv:b.valid with
 | false =>
  simp only [hv] at hc
  rw [K_fn P04.f265 _ _ rfl]
  simp only [go_sem,simprocAttr,e5G,hc]
 | true =>
  simp only [hv] at hc
  have hs:=e7y hv
  have ho:=e9U (Γ:=Γ) b hs
  rw [e9I] at ho
  cases hn:b.now with
  | nil =>
   rw [hn] at ho
   rw [K_fn P04.f265 _ _ rfl]
   simp only [go_sem,simprocAttr,e5G,hc,ho,List.length_nil,List.map_nil]
  | cons x l =>
   have hne:decide ((0:Int)<((l.length+1:Nat):Int))=true:=decide_eq_true (by omega)
   rw [hn] at ho
   rw [K_fn P04.f265 _ _ rfl]
   simp only [go_sem,simprocAttr,e5G,hc,ho,hne,List.length_map,List.length_cons]
   rfl
def CBook.ill (b:CBook) (bed day:Int):Int × Int:=if b.err (b.e6Q bed day)=0 then (e8B (fun w=>w.ill bed day) b.now,0) else (0,b.err (b.e6Q bed day))
theorem f1G (b:CBook) [hb:b.Fits] (bed day:Int):K Γ (.fn 257) [.agg b.c,vi bed,vi day] []=some (.tup [vi (b.ill bed day).1,vi (b.ill bed day).2],[]):=by
 obtain ⟨cs,ha,hlen,hp,hun,hO⟩:=f2w (Γ:=Γ) b (b.e6Q bed day)
 have hsp:=e8E (Γ:=Γ) b bed day
 have hu (m:Nat):C.a0G m cs=true:=a0C m _ hp
 by_cases he:b.err (b.e6Q bed day)=0
 ·have hcs:=hO he
  subst hcs
  have hv:b.valid=true:=by
   cases h:b.valid with
   | true=>rfl
   | false=>simp [CBook.err,h] at he
  have hs:=e7y hv
  have hw:b.e6Q bed day=true:=by
   cases h:b.e6Q bed day with
   | true=>rfl
   | false=>simp [CBook.err,hv,h] at he
  have hb5:=hs.b1
  have hsw:=hw
  rw [e8I hs.b1 hs.d1,CBook.e8J] at hsw
  obtain ⟨i,hi⟩:∃ i:Nat,bed=i:=⟨bed.toNat,by omega⟩
  subst hi
  have hC:=f3n (Γ:=Γ) b b.now (by have:=f3E hs;omega) i (by omega) day
  rw [he] at ha
  simp only [CBook.ill,if_pos he]
  rw [K_fn P04.f257 _ _ rfl]
  (simp only [go_sem,simprocAttr,e6U,hsp,ha,hlen,hp,hun,hu,hC];repeat' ((first|refine brY ?_|refine brN ?_|refine brA ?_|refine brD ?_|refine brF ?_);(try simp only [go_sem,simprocAttr,e6U,hsp,ha,hlen,hp,hun,hu,hC])))
 ·have hd:=decide_eq_false he
  simp only [CBook.ill,if_neg he]
  rw [K_fn P04.f257 _ _ rfl]
  (simp only [go_sem,simprocAttr,e6U,hsp,ha,hlen,hp,hun,hu,hd];repeat' ((first|refine brY ?_|refine brN ?_|refine brA ?_|refine brD ?_|refine brF ?_);(try simp only [go_sem,simprocAttr,e6U,hsp,ha,hlen,hp,hun,hu,hd])))
end
end Go.Pm.St
namespace Go.Pm.St
structure Reh where
 fr:Int
 til:Int
 wants:Int
structure PBook where
 cold:CBook
 st:Book
 kl:SK
 sleeps:List Int
 kr:SK
 rehs:List Reh
def PBook.a2O (b:PBook) (n:Int):Bool:=within n 0 (b.st.days.length - 1)
def PBook.e8H (b:PBook) (n:Int):Bool:=within n 0 (b.rehs.length - 1)
def PBook.e9c (b:PBook) (k:Nat) (bed:Int):Bool:=within bed 0 (b.cold.beds - 1)&&!(b.sleeps.take k).contains bed
def PBook.e6W (b:PBook) (j:Nat):Bool:=(List.range j).all fun k=>match b.sleeps[k]? with|some x=>b.e9c k x|none=>true
def PBook.e8d (b:PBook) (x:Reh):Bool:=b.a2O x.fr&&b.a2O x.til&&decide (x.fr<=x.til)&&within x.wants 0 3
def PBook.base (b:PBook):Bool:=b.cold.valid&&b.st.valid&&decide ((b.st.days.length:Int)<=b.cold.days)&&decide ((b.sleeps.length:Int)=b.st.singers.length)&&decide ((b.rehs.length:Int)<=3)
def PBook.valid (b:PBook):Bool:=b.base&&b.e6W b.sleeps.length&&b.rehs.all b.e8d
structure PSane (b:PBook):Prop where
 cold:CSane b.cold
 st:Sane b.st
 dd:(b.st.days.length:Int)<=b.cold.days
 ss:b.sleeps.length=b.st.singers.length
 r3:b.rehs.length<=3
 sl:∀ x∈b.sleeps,0<=x/\x<b.cold.beds
 rh:∀ x∈b.rehs,(0<=x.fr/\x.fr<b.st.days.length)/\(0<=x.til/\x.til<b.st.days.length)/\x.fr<=x.til/\(0<=x.wants/\x.wants<=3)
theorem PBook.e8i {b:PBook}:b.base=true<->b.cold.valid=true/\b.st.valid=true/\(b.st.days.length:Int)<=b.cold.days/\b.sleeps.length=b.st.singers.length/\b.rehs.length<=3:=by
 simp only [PBook.base,Bool.and_eq_true,decide_eq_true_eq,and_assoc]
 constructor
 ·rintro ⟨h1,h2,h3,h4,h5⟩;exact ⟨h1,h2,h3,by omega,by omega⟩
 ·rintro ⟨h1,h2,h3,h4,h5⟩;exact ⟨h1,h2,h3,by omega,by omega⟩
theorem e8r {b:PBook} (h:b.valid=true):b.base=true:=by
 simp only [PBook.valid,Bool.and_eq_true] at h;exact h.1.1
theorem e8s {b:PBook} (h:b.valid=true):b.cold.valid=true:=(PBook.e8i.1 (e8r h)).1
theorem e9Y {b:PBook} (h:b.valid=true):b.st.valid=true:=(PBook.e8i.1 (e8r h)).2.1
theorem e6h {b:PBook} (h:b.valid=true):PSane b:=by
 obtain ⟨h1,h2,h3,h4,h5⟩:=PBook.e8i.1 (e8r h)
 simp only [PBook.valid,Bool.and_eq_true] at h
 obtain ⟨⟨-,h6⟩,h7⟩:=h
 refine ⟨e7y h1,a2n.1 h2,h3,h4,h5,fun x hx=>?_,fun x hx=>?_⟩
 ·obtain ⟨i,hi⟩:=List.mem_iff_getElem?.1 hx
  have:=List.all_eq_true.1 h6 i (List.mem_range.2 (List.getElem?_eq_some_iff.1 hi).1)
  rw [hi] at this
  simp only [PBook.e9c,Bool.and_eq_true,within_iff] at this
  omega
 ·have:=List.all_eq_true.1 h7 x hx
  simp only [PBook.e8d,Bool.and_eq_true,PBook.a2O,within_iff,decide_eq_true_eq] at this
  omega
end Go.Pm.St
namespace Go.Pm.St
open Ac
def Reh.c (x:Reh):List C:=[ci x.fr,ci x.til,ci x.wants]
section
variable (x:Reh)
@[go_sem] theorem Reh.c_0:x.c[0]?=some (ci x.fr):=nrfl rfl
@[go_sem] theorem Reh.c_1:x.c[1]?=some (ci x.til):=nrfl rfl
@[go_sem] theorem Reh.c_2:x.c[2]?=some (ci x.wants):=nrfl rfl
@[go_sem] theorem Reh.c_un:x.c.map a0r=x.c:=nrfl rfl
@[go_sem] theorem Reh.b1w:C.a0v x.c=true:=nrfl rfl
@[go_sem] theorem Reh.b3L:a0R x.c 0 3=some x.c:=nrfl rfl
@[go_sem] theorem Reh.b3N:x.c.length=3:=nrfl rfl
@[go_sem] theorem Reh.b0w (n:Nat):C.a0G n x.c=true:=a0C n _ rfl
@[go_sem] theorem Reh.b3O (z0 z1 z2:C):a1H [z0,z1,z2] 0 x.c=x.c:=nrfl rfl
@[go_sem] theorem Reh.b3M (b:Nat) (h:List Obj):frzL b h 128 x.c=some x.c:=by simp only [Reh.c,go_sem]
end
def nums (l:List Int):List (List C):=l.map fun n=>[ci n]
def P24 (b:PBook) (m:C):List C:=b.cold.c++b.st.c++[.sl b.kl 1 (nums b.sleeps),.sl b.kr 3 (b.rehs.map Reh.c),m]
def PBook.c (b:PBook):List C:=b.cold.c++b.st.c++[.sl b.kl 1 (nums b.sleeps),.sl b.kr 3 (b.rehs.map Reh.c)]
section
variable (b:PBook) (m:C)
@[go_sem] theorem PBook.b3N:b.c.length=23:=nrfl rfl
@[go_sem] theorem PBook.c_1:b.c[1]?=some (ci b.cold.days):=nrfl rfl
@[go_sem] theorem PBook.c_0:b.c[0]?=some (ci b.cold.beds):=nrfl rfl
@[go_sem] theorem PBook.c_11:b.c[11]?=some (.sl b.st.ks 2 (b.st.singers.map Span.c)):=nrfl rfl
@[go_sem] theorem PBook.c_18:b.c[18]?=some (.sl b.st.kd 3 (b.st.days.map Day.c)):=nrfl rfl
@[go_sem] theorem PBook.c_20:b.c[20]?=some (.sl b.st.kg 4 (b.st.signs.map Sign.c)):=nrfl rfl
@[go_sem] theorem PBook.c_21:b.c[21]?=some (.sl b.kl 1 (nums b.sleeps)):=nrfl rfl
@[go_sem] theorem PBook.c_22:b.c[22]?=some (.sl b.kr 3 (b.rehs.map Reh.c)):=nrfl rfl
@[go_sem] theorem PBook.b3L:a0R b.c 0 23=some b.c:=nrfl rfl
@[go_sem] theorem PBook.f7Q:a0R b.c 0 11=some b.cold.c:=nrfl rfl
@[go_sem] theorem PBook.c_st:a0R b.c 11 10=some b.st.c:=nrfl rfl
@[go_sem] theorem PBook.c_un:b.c.map a0r=b.c:=nrfl rfl
@[go_sem] theorem PBook.b0w (n:Nat):C.a0G n b.c=true:=nrfl rfl
@[go_sem] theorem PBook.b1w:C.a0v b.c=true:=nrfl rfl
@[go_sem] theorem PBook.f7v:V.cells (.agg b.c)=b.c:=nrfl rfl
@[go_sem] theorem e8Y:(P24 b m).length=24:=nrfl rfl
@[go_sem] theorem f7E:(P24 b m)[11]?=some (.sl b.st.ks 2 (b.st.singers.map Span.c)):=nrfl rfl
@[go_sem] theorem f7F:(P24 b m)[18]?=some (.sl b.st.kd 3 (b.st.days.map Day.c)):=nrfl rfl
@[go_sem] theorem f7G:(P24 b m)[19]?=some (.sl b.st.kr 2 (b.st.rests.map Rest.c)):=nrfl rfl
@[go_sem] theorem f7H:(P24 b m)[20]?=some (.sl b.st.kg 4 (b.st.signs.map Sign.c)):=nrfl rfl
@[go_sem] theorem f7I:(P24 b m)[21]?=some (.sl b.kl 1 (nums b.sleeps)):=nrfl rfl
@[go_sem] theorem f7J:(P24 b m)[22]?=some (.sl b.kr 3 (b.rehs.map Reh.c)):=nrfl rfl
@[go_sem] theorem f7K:(P24 b m)[23]?=some m:=nrfl rfl
@[go_sem] theorem f7r:a0R (P24 b m) 0 24=some (P24 b m):=nrfl rfl
@[go_sem] theorem f8f:a0R (P24 b m) 0 23=some b.c:=nrfl rfl
@[go_sem] theorem f7L:a0R (P24 b m) 11 10=some b.st.c:=nrfl rfl
@[go_sem] theorem f7M:(P24 b m).map a0r=P24 b (a0r m):=nrfl rfl
@[go_sem] theorem f6B (n:Nat):C.a0G n (P24 b m)=C.a0G n [m]:=nrfl rfl
@[go_sem] theorem f6T:C.a0v (P24 b m)=C.a0v [m]:=nrfl rfl
@[go_sem] theorem f6V:(P24 b m).take 24=P24 b m:=nrfl rfl
@[go_sem] theorem f6S:(P24 b m).drop 24=[]:=nrfl rfl
end
theorem e7n (l:List Int) (i:Nat):(nums l)[i]?=(l[i]?).map fun n=>[ci n]:=by simp [nums]
theorem f2c (l:List Int) (i:Nat):(nums l).take i=nums (l.take i):=by simp [nums,List.map_take]
theorem e4t (l:List Int):(nums l).length=l.length:=by simp [nums]
theorem f2J (l m:List Int):nums (l++m)=nums l++nums m:=by simp [nums]
class PBook.Fits (b:PBook):Prop where
 cold:b.cold.Fits
 st:b.st.Fits
 sl:b.sleeps.length<=9223372036854775807
 rh:b.rehs.length<=9223372036854775807
 nk:b.st.kd=.nil->b.st.days=[]
instance (b:PBook) [h:b.Fits]:b.cold.Fits:=h.cold
instance (b:PBook) [h:b.Fits]:b.st.Fits:=h.st
section
variable {Γ:Env} [P04 Γ] [G04 Γ] [GCo Γ]
@[go_sem] theorem f6J (a b c:Int):K Γ (.fn 268) [vi a,vi b,vi c] []=some (vb (within a b c),[]):=by
 rw [K_fn P04.f268 _ _ rfl]
 (simp only [go_sem,simprocAttr,e6t];repeat' (first|((first|refine brY ?_|refine brN ?_|refine brA ?_|refine brD ?_|refine brF ?_|((first|apply a0k|apply a0j);(· intro h;simp only [go_sem,simprocAttr,a0p h,e6t];exact rfl)));(try simp only [go_sem,simprocAttr,e6t]))|((first|apply a0e|apply d7E|apply a0a)<;>intro h<;>(try simp only [go_sem,simprocAttr,h,e6t]))))
 all_goals (simp_all [within];try (intros;omega))
theorem f0A {n:Nat} (h:n<=9223372036854775807):IntKind.i64.wrap ((n:Int) - 1)=n - 1:=wrap_i64 (by omega) (by omega)
@[go_sem] theorem f0J (b:PBook) [hb:b.Fits] (n:Int):K Γ (.fn 269) [.agg b.c,vi n] []=some (vb (b.a2O n),[]):=by
 have hw:=f0A hb.st.d
 rw [K_fn P04.f269 _ _ rfl]
 simp only [go_sem,simprocAttr,e6A,hw,List.length_map]
 rfl
@[go_sem] theorem f7e (b:PBook) [hb:b.Fits] (n:Int):K Γ (.fn 276) [.agg b.c,vi n] []=some (vb (b.e8H n),[]):=by
 have hw:=f0A hb.rh
 rw [K_fn P04.f276 _ _ rfl]
 simp only [go_sem,simprocAttr,e5K,hw,List.length_map]
 rfl
theorem f0d (b:PBook) {j:Nat} {x:Int} (hx:b.sleeps[j]?=some x):b.e6W (j+1)=(b.e6W j&&b.e9c j x):=by
 simp [PBook.e6W,List.range_succ,hx]
theorem f3H (b:PBook) [hb:b.Fits] (ok:Bool) (h:ok=true->b.base=true) {β:Type} (Q:Ex->St->Option β) :
 E Γ e7w ⟨[(1,.sc (.ptr 0 0)),(3,vb ok),(45,.sc (.sl b.kl 1 (nums b.sleeps))),(46,vi b.sleeps.length),(47,vi 0)],[.var b.c]⟩ Q =
 Q (.exit 0) ⟨[(1,.sc (.ptr 0 0)),(3,vb (ok&&b.e6W b.sleeps.length)),(45,.sc (.sl b.kl 1 (nums b.sleeps))),(46,vi b.sleeps.length),(47,vi b.sleeps.length),(48,vb false)],[.var b.c]⟩:=by
 have hbm:=hb.sl
 refine (a4Q (fun j=>⟨[(1,.sc (.ptr 0 0)),(3,vb (ok&&b.e6W j)),(45,.sc (.sl b.kl 1 (nums b.sleeps))),(46,vi b.sleeps.length),(47,vi j)],[.var b.c]⟩) b.sleeps
  (.exit 0,⟨[(1,.sc (.ptr 0 0)),(3,vb (ok&&b.e6W b.sleeps.length)),(45,.sc (.sl b.kl 1 (nums b.sleeps))),(46,vi b.sleeps.length),(47,vi b.sleeps.length),(48,vb false)],[.var b.c]⟩) Q ?_ ?_ ?_).trans ?_
 ·simp [PBook.e6W]
 ·intro j x hx
  have hj:=(List.getElem?_eq_some_iff.1 hx).1
  have hlt:=decide_eq_true (show (j:Int)<b.sleeps.length by omega)
  have hjw:IntKind.i64.wrap ((j:Int)+1)=j+1:=wrap_i64 (by omega) (by omega)
  have hn:(nums b.sleeps)[j]?=some [ci x]:=by rw [e7n,hx];rfl
  rw [f0d b hx]
  cases ok with
  | false =>
   simp only [Bool.false_and]
   (simp only [go_sem,simprocAttr,e4I,hn,hlt,hjw,e4t];repeat' ((first|refine brY ?_|refine brN ?_|refine brA ?_|refine brD ?_|refine brF ?_);(try simp only [go_sem,simprocAttr,e4I,hn,hlt,hjw,e4t])))
   rfl
  | true =>
   obtain ⟨h1,h2,h3,h4,h5⟩:=PBook.e8i.1 (h rfl)
   have hc:=(e7y h1).b1
   have hs:=(a2n.1 h2).s3
   simp only [Bool.true_and]
   cases hm:b.e6W j with
   | false =>
    simp only [Bool.false_and]
    (simp only [go_sem,simprocAttr,e4I,hn,hlt,hjw,e4t];repeat' ((first|refine brY ?_|refine brN ?_|refine brA ?_|refine brD ?_|refine brF ?_);(try simp only [go_sem,simprocAttr,e4I,hn,hlt,hjw,e4t])))
    rfl
   | true =>
    have hbw:IntKind.i64.wrap (b.cold.beds - 1)=b.cold.beds - 1:=wrap_i64 (by omega) (by omega)
    obtain ⟨k',hS⟩:=e9Z 1 b.kl (nums b.sleeps) j (by rw [e4t];omega)
    rw [f2c] at hS
    have hM:=contains_k (Γ:=Γ) k' (b.sleeps.take j) x (by rw [List.length_take];omega)
    simp only [Bool.true_and,PBook.e9c]
    cases hw:within x 0 (b.cold.beds - 1) with
    | false =>
     simp only [Bool.false_and]
     (simp only [go_sem,simprocAttr,e4I,hn,hlt,hjw,hbw,hw,e4t];repeat' ((first|refine brY ?_|refine brN ?_|refine brA ?_|refine brD ?_|refine brF ?_);(try simp only [go_sem,simprocAttr,e4I,hn,hlt,hjw,hbw,hw,e4t])))
     rfl
    | true =>
     simp only [Bool.true_and]
     change K Γ (.fn 76) [.sc (.sl k' 1 (nums (b.sleeps.take j))),vi x] []=_ at hM
     (simp only [go_sem,simprocAttr,e4I,hn,hlt,hjw,hbw,hw,hS,hM,e4t];repeat' ((first|refine brY ?_|refine brN ?_|refine brA ?_|refine brD ?_|refine brF ?_);(try simp only [go_sem,simprocAttr,e4I,hn,hlt,hjw,hbw,hw,hS,hM,e4t])))
     rfl
 ·have hlt:=decide_eq_false (show ¬ (b.sleeps.length:Int)<b.sleeps.length by omega)
  (simp only [go_sem,simprocAttr,e4I,hlt];repeat' ((first|refine brY ?_|refine brN ?_|refine brA ?_|refine brD ?_|refine brF ?_);(try simp only [go_sem,simprocAttr,e4I,hlt])))
 ·rfl
theorem f3I (b:PBook) [hb:b.Fits] (ok:Bool) {β:Type} (Q:Ex->St->Option β) :
 E Γ e8a ⟨[(1,.sc (.ptr 0 0)),(3,vb ok),(72,.sc (.sl b.kr 3 (b.rehs.map Reh.c))),(73,vi b.rehs.length),(74,vi 0)],[.var b.c]⟩ Q =
 Q (.exit 2) ⟨[(1,.sc (.ptr 0 0)),(3,vb (ok&&b.rehs.all b.e8d)),(72,.sc (.sl b.kr 3 (b.rehs.map Reh.c))),(73,vi b.rehs.length),(74,vi b.rehs.length),(75,vb false)],[.var b.c]⟩:=by
 have hbm:=hb.rh
 refine (a4Q (fun j=>⟨[(1,.sc (.ptr 0 0)),(3,vb (ok&&(b.rehs.take j).all b.e8d)),(72,.sc (.sl b.kr 3 (b.rehs.map Reh.c))),(73,vi b.rehs.length),(74,vi j)],[.var b.c]⟩) b.rehs
  (.exit 2,⟨[(1,.sc (.ptr 0 0)),(3,vb (ok&&b.rehs.all b.e8d)),(72,.sc (.sl b.kr 3 (b.rehs.map Reh.c))),(73,vi b.rehs.length),(74,vi b.rehs.length),(75,vb false)],[.var b.c]⟩) Q ?_ ?_ ?_).trans ?_
 ·simp
 ·intro j x hx
  have hj:=(List.getElem?_eq_some_iff.1 hx).1
  have hlt:=decide_eq_true (show (j:Int)<b.rehs.length by omega)
  have hjw:IntKind.i64.wrap ((j:Int)+1)=j+1:=wrap_i64 (by omega) (by omega)
  rw [take_snoc hx,List.all_append,List.all_cons,List.all_nil,Bool.and_true, ← Bool.and_assoc]
  have d1:=f0J (Γ:=Γ) b x.fr
  have d2:=f0J (Γ:=Γ) b x.til
  cases hm:(ok&&(b.rehs.take j).all b.e8d) with
  | false =>
   simp only [Bool.false_and]
   (simp only [go_sem,simprocAttr,e4F,hx,hlt,hjw,List.length_map];repeat' ((first|refine brY ?_|refine brN ?_|refine brA ?_|refine brD ?_|refine brF ?_);(try simp only [go_sem,simprocAttr,e4F,hx,hlt,hjw,List.length_map])))
   rfl
  | true =>
   simp only [Bool.true_and,PBook.e8d]
   cases c1:b.a2O x.fr with
   | false =>
    simp only [Bool.false_and]
    (simp only [go_sem,simprocAttr,e4F,hx,hlt,hjw,c1,List.length_map];repeat' ((first|refine brY ?_|refine brN ?_|refine brA ?_|refine brD ?_|refine brF ?_);(try simp only [go_sem,simprocAttr,e4F,hx,hlt,hjw,c1,List.length_map])))
    rfl
   | true =>
    cases c2:b.a2O x.til with
    | false =>
     simp only [Bool.false_and,Bool.true_and]
     (simp only [go_sem,simprocAttr,e4F,hx,hlt,hjw,c1,c2,List.length_map];repeat' ((first|refine brY ?_|refine brN ?_|refine brA ?_|refine brD ?_|refine brF ?_);(try simp only [go_sem,simprocAttr,e4F,hx,hlt,hjw,c1,c2,List.length_map])))
     rfl
    | true =>
     cases c3:decide (x.fr<=x.til) with
     | false =>
      simp only [Bool.false_and,Bool.true_and]
      (simp only [go_sem,simprocAttr,e4F,hx,hlt,hjw,c1,c2,c3,List.length_map];repeat' ((first|refine brY ?_|refine brN ?_|refine brA ?_|refine brD ?_|refine brF ?_);(try simp only [go_sem,simprocAttr,e4F,hx,hlt,hjw,c1,c2,c3,List.length_map])))
      rfl
     | true =>
      simp only [Bool.true_and]
      (simp only [go_sem,simprocAttr,e4F,hx,hlt,hjw,c1,c2,c3,List.length_map];repeat' ((first|refine brY ?_|refine brN ?_|refine brA ?_|refine brD ?_|refine brF ?_);(try simp only [go_sem,simprocAttr,e4F,hx,hlt,hjw,c1,c2,c3,List.length_map])))
      rfl
 ·have hlt:=decide_eq_false (show ¬ (b.rehs.length:Int)<b.rehs.length by omega)
  rw [List.take_length]
  (simp only [go_sem,simprocAttr,e4F,hlt];repeat' ((first|refine brY ?_|refine brN ?_|refine brA ?_|refine brD ?_|refine brF ?_);(try simp only [go_sem,simprocAttr,e4F,hlt])))
 ·rfl
theorem f0F (b:PBook) [hb:b.Fits]:K Γ (.fn 236) [.agg b.c] []=some (vi (if b.valid then 0 else 100),[]):=by
 have hv:b.valid=(b.base&&b.e6W b.sleeps.length&&b.rehs.all b.e8d):=rfl
 have hc:=e8D (Γ:=Γ) b.cold
 have h1 {β:Type} (ok:Bool) (Q:Ex->St->Option β):=f3I (Γ:=Γ) b ok Q
 have fin:∀ ok:Bool,(ok=true->b.base=true)->∀ {β:Type} (Q:Ex->St->Option β),
  E Γ e7w ⟨[(1,.sc (.ptr 0 0)),(3,vb ok),(45,.sc (.sl b.kl 1 (nums b.sleeps))),(46,vi b.sleeps.length),(47,vi 0)],[.var b.c]⟩ Q=_:=fun ok h {β} Q=>f3H (Γ:=Γ) b ok h Q
 have hf {β:Type} (Q:Ex->St->Option β):=fin false (fun h=>by cases h) Q
 have hs:=c9C (Γ:=Γ) b.st
 rw [hv]
 cases hbase:b.base with
 | false =>
  simp only [Bool.false_and] at hf ⊢
  simp only [PBook.base] at hbase
  cases c1:b.cold.valid with
  | false=>rw [c1] at hc;rw [K_fn P04.f236 _ _ rfl];simp only [go_sem,simprocAttr,e4E,hc,hf,h1,e4t,List.length_map]
  | true =>
   rw [c1] at hc
   cases c2:b.st.valid with
   | false=>rw [c2] at hs;rw [K_fn P04.f236 _ _ rfl];simp only [go_sem,simprocAttr,e4E,hc,hs,hf,h1,e4t,List.length_map]
   | true =>
    rw [c2] at hs
    cases c3:decide ((b.st.days.length:Int)<=b.cold.days) with
    | false=>rw [K_fn P04.f236 _ _ rfl];simp only [go_sem,simprocAttr,e4E,hc,hs,c3,hf,h1,e4t,List.length_map]
    | true =>
     cases c4:decide ((b.sleeps.length:Int)=b.st.singers.length) with
     | false=>rw [K_fn P04.f236 _ _ rfl];simp only [go_sem,simprocAttr,e4E,hc,hs,c3,c4,hf,h1,e4t,List.length_map]
     | true =>
      cases c5:decide ((b.rehs.length:Int)<=3) with
      | false=>rw [K_fn P04.f236 _ _ rfl];simp only [go_sem,simprocAttr,e4E,hc,hs,c3,c4,c5,hf,h1,e4t,List.length_map]
      | true=>rw [c1,c2,c3,c4,c5] at hbase;cases hbase
 | true =>
  have ht {β:Type} (Q:Ex->St->Option β):=fin true (fun _=>hbase) Q
  obtain ⟨e1,e2,e3,e4,e5⟩:=PBook.e8i.1 hbase
  have c3:=decide_eq_true e3
  have c4:=decide_eq_true (show (b.sleeps.length:Int)=b.st.singers.length by omega)
  have c5:=decide_eq_true (show (b.rehs.length:Int)<=3 by omega)
  rw [e1] at hc
  rw [e2] at hs
  simp only [Bool.true_and] at ht ⊢
  cases c6:(b.e6W b.sleeps.length&&b.rehs.all b.e8d) with
  | false=>rw [K_fn P04.f236 _ _ rfl];simp only [go_sem,simprocAttr,e4E,hc,hs,c3,c4,c5,c6,ht,h1,e4t,List.length_map]
  | true=>rw [K_fn P04.f236 _ _ rfl];simp only [go_sem,simprocAttr,e4E,hc,hs,c3,c4,c5,c6,ht,h1,e4t,List.length_map]
end
end Go.Pm.St
namespace Go.Pm.St
open Ac
def Z24:List C:=[ci 0,ci 0,ci 0,ci 0,ci 0,ci 0,ci 0,ci 0,.sl .nil 2 [],ci 0,.sl .nil 3 [],.sl .nil 2 [],ci 0,ci 0,ci 0,ci 0,ci 0,ci 0,.sl .nil 3 [],.sl .nil 2 [],.sl .nil 4 [],.sl .nil 1 [],.sl .nil 3 [],.imap true false []]
theorem e8L:∀ (vs pre z:List C),vs.length<=z.length->a1H (pre++z) pre.length vs=pre++vs++z.drop vs.length
 | [],pre,z,_=>by simp [a1H]
 | v::vs,pre,[],h=>by simp at h
 | v::vs,pre,x::z,h=>by
  have hs:(pre++x::z).set pre.length v=(pre++[v])++z:=by
   rw [List.set_append_right _ _ (Nat.le_refl _)];simp
  have ih:=e8L vs (pre++[v]) z (by simpa using h)
  simp only [List.length_append,List.length_cons,List.length_nil,Nat.zero_add] at ih
  simp only [a1H,hs,ih]
  simp
theorem e7D (vs z:List C) (h:vs.length<=z.length):a1H z 0 vs=vs++z.drop vs.length:=by simpa using e8L vs [] z h
section
variable (b:PBook) (m c:C)
theorem f4c:b.c++[m]=P24 b m:=by simp [PBook.c,P24]
@[go_sem] theorem f6U (z0 z1 z2 z3 z4 z5 z6 z7 z8 z9 z10 z11 z12 z13 z14 z15 z16 z17 z18 z19 z20 z21 z22:C):a1H [z0,z1,z2,z3,z4,z5,z6,z7,z8,z9,z10,z11,z12,z13,z14,z15,z16,z17,z18,z19,z20,z21,z22,m] 0 b.c=P24 b m:=by
 rw [e7D _ _ (by rw [PBook.b3N];exact Nat.le_succ 23),PBook.b3N, ← f4c]
 simp only [List.drop_succ_cons,List.drop_zero]
@[go_sem] theorem f6A (z0 z1 z2 z3 z4 z5 z6 z7 z8 z9 z10 z11 z12 z13 z14 z15 z16 z17 z18 z19 z20 z21 z22 z23:C):a1H [z0,z1,z2,z3,z4,z5,z6,z7,z8,z9,z10,z11,z12,z13,z14,z15,z16,z17,z18,z19,z20,z21,z22,z23] 0 (P24 b m)=P24 b m:=by
 rw [e7D _ _ (by rw [e8Y];exact Nat.le_refl 24),e8Y]
 simp only [List.drop_succ_cons,List.drop_zero,List.append_nil]
@[go_sem] theorem f4d:a1H (P24 b m) 23 [c]=P24 b c:=nrfl rfl
@[go_sem] theorem f6z:(P24 b m).set 23 c=P24 b c:=nrfl rfl
@[go_sem] theorem f6y:V.cells (.agg (P24 b m))=P24 b m:=nrfl rfl
theorem e8X (b':Nat) (h:List Obj) (l:List (List C × List C)):frzL b' h 128 (P24 b (.imap true false l))=some (P24 b (.imap true false l)):=rfl
theorem f0t (t:List (Nat × V)) (ht:get t 3=.sc (.ptr 3 0)) (x0 x1:Obj) (l:List (List C × List C)) :
 a3G 3 ⟨t,[x0,x1,.map true false l none,.var (P24 b (.map 2))]⟩=some ⟨t,[x0,x1,.dead,.var (P24 b (.imap true false l))]⟩:=by
 unfold a3G
 rw [ht]
 rfl
end
def PBook.e7e (b:PBook) (L:List (Int × Int × Bool)) (day:Nat):Nat->List (Int × Int × Bool)
 | 0=>L
 | j+1=>match b.sleeps[j]? with
  | some bed=>putB (b.e7e L day j) j day (decide (0<(b.cold.ill bed day).1))
  | none=>b.e7e L day j
def PBook.e7Y (b:PBook):Nat->List (Int × Int × Bool)
 | 0=>[(-1, -1,false)]
 | d+1=>b.e7e (b.e7Y d) d b.sleeps.length
def PBook.e7q (b:PBook):List (Int × Int × Bool):=b.e7Y b.st.days.length
theorem e8U (b:PBook) (L:List (Int × Int × Bool)) (day:Nat) {j:Nat} {x:Int} (hx:b.sleeps[j]?=some x):b.e7e L day (j+1)=putB (b.e7e L day j) j day (decide (0<(b.cold.ill x day).1)):=by simp only [PBook.e7e,hx]
theorem f0w (b:PBook) (L:List (Int × Int × Bool)) (day:Nat):∀ (j:Nat),j<=b.sleeps.length->∀ (s:Nat) (d:Int),gotB (b.e7e L day j) s d=if d=day/\s<j then decide (0<(b.cold.ill (b.sleeps[s]?.getD 0) day).1) else gotB L s d
 | 0,_,s,d=>by simp [PBook.e7e]
 | j+1,hj,s,d=>by
  have hx:b.sleeps[j]?=some b.sleeps[j]:=List.getElem?_eq_getElem (by omega)
  rw [e8U b L day hx,f0v,f0w b L day j (by omega)]
  by_cases h1:(s:Int)=j/\d=day
  ·obtain ⟨h1,rfl⟩:=h1
   have:s=j:=by omega
   subst this
   simp [hx]
  ·rw [if_neg h1]
   by_cases h2:d=(day:Int)/\s<j
   ·rw [if_pos h2,if_pos ⟨h2.1,by omega⟩]
   ·rw [if_neg h2,if_neg]
    rintro ⟨rfl,h3⟩
    have:s=j:=by
     apply Classical.byContradiction
     intro h4
     exact h2 ⟨rfl,by omega⟩
    exact h1 ⟨by omega,rfl⟩
theorem f1d (b:PBook):∀ (n:Nat) (s d:Nat),gotB (b.e7Y n) s d=(decide (d<n/\s<b.sleeps.length)&&decide (0<(b.cold.ill (b.sleeps[s]?.getD 0) d).1))
 | 0,s,d=>by
  have:¬ ((s:Int) = -1/\(d:Int) = -1):=by omega
  simp [PBook.e7Y,gotB,this]
 | n+1,s,d=>by
  rw [PBook.e7Y,f0w b _ n _ (Nat.le_refl _),f1d b n s d]
  by_cases h:(d:Int)=n/\s<b.sleeps.length
  ·obtain ⟨h1,h2⟩:=h
   have:d=n:=by omega
   subst this
   simp [h2]
  ·rw [if_neg h]
   congr 1
   rw [decide_eq_decide]
   constructor
   ·rintro ⟨h1,h2⟩;exact ⟨by omega,h2⟩
   ·rintro ⟨h1,h2⟩
    refine ⟨?_,h2⟩
    have:¬ d=n:=fun e=>h ⟨by omega,h2⟩
    omega
def PBook.f4t (b:PBook) (s d:Nat):Bool:=gotB b.e7q s d
theorem f1T (b:PBook) (s d:Nat):b.f4t s d=(decide (d<b.st.days.length/\s<b.sleeps.length)&&decide (0<(b.cold.ill (b.sleeps[s]?.getD 0) d).1)):=f1d b _ s d
abbrev PBook.o (b:PBook):List C:=P24 b (.imap true false (encB b.e7q))
class GPr (Γ:Env):Prop where
 g5:Γ.glob 5=[.fn (.fn 348) [] [] [],.fn (.fn 349) [] [] []]
 g6:Γ.glob 6=[ci 9,ci 9,ci 9]
 g9:Γ.glob 9=[ci (-1),ci (-1)]
attribute [go_sem] GPr.g5 GPr.g6 GPr.g9
section
variable {Γ:Env} [P04 Γ] [G04 Γ] [GCo Γ] [GPr Γ]
theorem f1B (b:PBook) [hb:b.Fits] (hs:PSane b) (L:List (Int × Int × Bool)) (d:Nat) (e1:Int) {β:Type} (Q:Ex->St->Option β) :
 E Γ e7X ⟨[(1,.sc (.ptr 0 0)),(2,.sc (.ptr 1 0)),(3,.sc (.ptr 3 0)),(4,vi d),(17,vi e1),(18,vi d),(22,.sc (.sl b.kl 1 (nums b.sleeps))),(23,vi b.sleeps.length),(24,vi 0)],[.var b.c,.var Z24,.map true false (encB L) none,.var (P24 b (.map 2))]⟩ Q =
 Q (.exit 2) ⟨[(1,.sc (.ptr 0 0)),(2,.sc (.ptr 1 0)),(3,.sc (.ptr 3 0)),(4,vi d),(17,vi e1),(18,vi d),(22,.sc (.sl b.kl 1 (nums b.sleeps))),(23,vi b.sleeps.length),(24,vi b.sleeps.length),(25,vb false)],[.var b.c,.var Z24,.map true false (encB (b.e7e L d b.sleeps.length)) none,.var (P24 b (.map 2))]⟩:=by
 have h3:=hs.ss
 have h4:=hs.st.s3
 have hz:∀ n,Obj.under n (.var Z24)=true:=fun n=>by simp [Z24,go_sem]
 refine (a4Q (fun j=>⟨[(1,.sc (.ptr 0 0)),(2,.sc (.ptr 1 0)),(3,.sc (.ptr 3 0)),(4,vi d),(17,vi e1),(18,vi d),(22,.sc (.sl b.kl 1 (nums b.sleeps))),(23,vi b.sleeps.length),(24,vi j)],[.var b.c,.var Z24,.map true false (encB (b.e7e L d j)) none,.var (P24 b (.map 2))]⟩) b.sleeps
  (.exit 2,⟨[(1,.sc (.ptr 0 0)),(2,.sc (.ptr 1 0)),(3,.sc (.ptr 3 0)),(4,vi d),(17,vi e1),(18,vi d),(22,.sc (.sl b.kl 1 (nums b.sleeps))),(23,vi b.sleeps.length),(24,vi b.sleeps.length),(25,vb false)],[.var b.c,.var Z24,.map true false (encB (b.e7e L d b.sleeps.length)) none,.var (P24 b (.map 2))]⟩) Q ?_ ?_ ?_).trans ?_
 ·rfl
 ·intro j x hx
  have hj:=(List.getElem?_eq_some_iff.1 hx).1
  have hlt:=decide_eq_true (show (j:Int)<b.sleeps.length by omega)
  have hjw:IntKind.i64.wrap ((j:Int)+1)=j+1:=wrap_i64 (by omega) (by omega)
  have hn:(nums b.sleeps)[j]?=some [ci x]:=by rw [e7n,hx];rfl
  have hI:=f1G (Γ:=Γ) b.cold x d
  rw [e8U b L d hx]
  (simp only [go_sem,simprocAttr,e5x,hn,hlt,hjw,hI,hz];repeat' ((first|refine brY ?_|refine brN ?_|refine brA ?_|refine brD ?_|refine brF ?_);(try simp only [go_sem,simprocAttr,e5x,hn,hlt,hjw,hI,hz])))
  rfl
 ·have hlt:=decide_eq_false (show ¬ (b.sleeps.length:Int)<b.sleeps.length by omega)
  (simp only [go_sem,simprocAttr,e5x,hlt,hz];repeat' ((first|refine brY ?_|refine brN ?_|refine brA ?_|refine brD ?_|refine brF ?_);(try simp only [go_sem,simprocAttr,e5x,hlt,hz])))
 ·rfl
theorem f1A (b:PBook) [hb:b.Fits] (hs:PSane b) {β:Type} (Q:Ex->St->Option β) :
 E Γ e7W ⟨[(1,.sc (.ptr 0 0)),(2,.sc (.ptr 1 0)),(3,.sc (.ptr 3 0)),(17,vi b.st.days.length),(18,vi 0)],[.var b.c,.var Z24,.map true false (encB [(-1, -1,false)]) none,.var (P24 b (.map 2))]⟩ Q =
 Q (.exit 0) ⟨[(1,.sc (.ptr 0 0)),(2,.sc (.ptr 1 0)),(3,.sc (.ptr 3 0)),(17,vi b.st.days.length),(18,vi b.st.days.length),(19,vb false)],[.var b.c,.var Z24,.map true false (encB b.e7q) none,.var (P24 b (.map 2))]⟩:=by
 have h3:=hs.st.d5
 have hz:∀ n,Obj.under n (.var Z24)=true:=fun n=>by simp [Z24,go_sem]
 refine (a4Q (fun j=>⟨[(1,.sc (.ptr 0 0)),(2,.sc (.ptr 1 0)),(3,.sc (.ptr 3 0)),(17,vi b.st.days.length),(18,vi j)],[.var b.c,.var Z24,.map true false (encB (b.e7Y j)) none,.var (P24 b (.map 2))]⟩) b.st.days
  (.exit 0,⟨[(1,.sc (.ptr 0 0)),(2,.sc (.ptr 1 0)),(3,.sc (.ptr 3 0)),(17,vi b.st.days.length),(18,vi b.st.days.length),(19,vb false)],[.var b.c,.var Z24,.map true false (encB b.e7q) none,.var (P24 b (.map 2))]⟩) Q ?_ ?_ ?_).trans ?_
 ·rfl
 ·intro j x hx
  have hj:=(List.getElem?_eq_some_iff.1 hx).1
  have hlt:=decide_eq_true (show (j:Int)<b.st.days.length by omega)
  have hjw:IntKind.i64.wrap ((j:Int)+1)=j+1:=wrap_i64 (by omega) (by omega)
  have h1 {β:Type} (Q:Ex->St->Option β):=f1B (Γ:=Γ) b hs (b.e7Y j) j b.st.days.length Q
  simp only [PBook.e7Y]
  simp only [go_sem,simprocAttr,e5w,hlt,hjw,h1,hz,e4t]
  rfl
 ·have hlt:=decide_eq_false (show ¬ (b.st.days.length:Int)<b.st.days.length by omega)
  simp only [go_sem,simprocAttr,e5w,hlt,hz]
  rfl
 ·rfl
theorem f2h (b:PBook) [hb:b.Fits] (hs:PSane b):K Γ (.fn 305) [.agg b.c] []=some (.agg b.o,[]):=by
 have h0 {β:Type} (Q:Ex->St->Option β):=f1A (Γ:=Γ) b hs Q
 have hm0:e9D (some (.map true false [] none)) ⟨true,[1,1]⟩ (.agg [.int .i64 (-1),.int .i64 (-1)]) (.sc (.bool false))=some (.map true false (encB [(-1, -1,false)]) none):=f1g [] (-1) (-1) false
 simp only [Z24] at h0
 rw [K_fn P04.f305 _ _ rfl]
 (simp only [go_sem,simprocAttr,e6Z,h0,hm0,f0t,e8X,List.length_map];repeat' ((first|with_reducible refine brD ?_|with_reducible refine brF ?_|with_reducible refine brY ?_|with_reducible refine brN ?_|with_reducible refine brA ?_);(try simp only [go_sem,simprocAttr,e6Z,h0,hm0,f0t,e8X,List.length_map])))
end
end Go.Pm.St
namespace Go.Pm.St
open Ac
structure D3 where
 d0:Int
 d1:Int
 d2:Int
 deriving DecidableEq
def D3.l (x:D3):List Int:=[x.d0,x.d1,x.d2]
def D3.c (x:D3):List C:=[ci x.d0,ci x.d1,ci x.d2]
section
variable (x:D3)
@[go_sem] theorem D3.c_0:x.c[0]?=some (ci x.d0):=nrfl rfl
@[go_sem] theorem D3.c_1:x.c[1]?=some (ci x.d1):=nrfl rfl
@[go_sem] theorem D3.c_2:x.c[2]?=some (ci x.d2):=nrfl rfl
@[go_sem] theorem D3.c_un:x.c.map a0r=x.c:=nrfl rfl
@[go_sem] theorem D3.b1w:C.a0v x.c=true:=nrfl rfl
@[go_sem] theorem D3.b3L:a0R x.c 0 3=some x.c:=nrfl rfl
@[go_sem] theorem D3.b3N:x.c.length=3:=nrfl rfl
@[go_sem] theorem D3.b0w (n:Nat):C.a0G n x.c=true:=a0C n _ rfl
@[go_sem] theorem D3.b3O (z0 z1 z2:C):a1H [z0,z1,z2] 0 x.c=x.c:=nrfl rfl
@[go_sem] theorem D3.b3M (b:Nat) (h:List Obj):frzL b h 128 x.c=some x.c:=by simp only [D3.c,go_sem]
end
theorem D3.get (x:D3) (i:Nat):x.c[i]?=(x.l[i]?).map fun n=>ci n:=by
 rcases i with _|_|_|i<;>rfl
theorem D3.len (x:D3):x.l.length=3:=rfl
def P27 (x:D3) (o:List C):List C:=x.c++o
section
variable (x:D3) (b:PBook) (m:C)
@[go_sem] theorem e7R:(P27 x (P24 b m)).length=27:=nrfl rfl
@[go_sem] theorem f8g:a0R (P27 x (P24 b m)) 0 3=some x.c:=nrfl rfl
@[go_sem] theorem f7N:a0R (P27 x (P24 b m)) 3 24=some (P24 b m):=nrfl rfl
@[go_sem] theorem f7s:a0R (P27 x (P24 b m)) 0 27=some (P27 x (P24 b m)):=nrfl rfl
@[go_sem] theorem f7O:(P27 x (P24 b m)).map a0r=P27 x (P24 b (a0r m)):=nrfl rfl
@[go_sem] theorem f6F (n:Nat):C.a0G n (P27 x (P24 b m))=C.a0G n [m]:=nrfl rfl
@[go_sem] theorem f6Y:C.a0v (P27 x (P24 b m))=C.a0v [m]:=nrfl rfl
@[go_sem] theorem f6D:V.cells (.agg (P27 x (P24 b m)))=P27 x (P24 b m):=nrfl rfl
end
def PBook.d2x (b:PBook) (d:Int):Nat->List Int
 | 0=>[]
 | j+1=>if gotB b.e7q j d then b.d2x d j++[(j:Int)] else b.d2x d j
def PBook.e5i (b:PBook) (d:Int):List Int:=b.d2x d b.sleeps.length
theorem e9m (b:PBook) (d:Int):∀ j,(b.d2x d j).length<=j
 | 0=>Nat.le_refl 0
 | j+1=>by
  have:=e9m b d j
  simp only [PBook.d2x]
  split
  ·simp;omega
  ·omega
def kU {α:Type} (L:List α):SK:=match L with | []=>.nil|_::_=>.full
theorem e8t (es:Nat) (L:List (List C)) (n:Nat) (hn:L.length=n):sliced es (.sc (a0r (ownC es L))) none (some (.sc (.int .i64 n))) (some (.sc (.int .i64 n)))=some (.sl (kU L) es L):=by
 have:=a6u es (kS L) L n hn
 cases L<;>exact this
def sumW (l:List Int):Int:=l.foldl (fun a n=>IntKind.i64.wrap (a+n)) 0
theorem sumW_snoc (l:List Int) (n:Int):sumW (l++[n])=IntKind.i64.wrap (sumW l+n):=by simp [sumW]
theorem f3z (l:List Int):kS (nums l)=kS l:=by cases l<;>rfl
theorem e9N (l:List Int):kU (nums l)=kU l:=by cases l<;>rfl
section
variable {Γ:Env} [P04 Γ] [G04 Γ] [GCo Γ] [GPr Γ]
theorem f2H (b:PBook) (hs:PSane b) (d:Int) {β:Type} (Q:Ex->St->Option β) :
 E Γ e7v ⟨[(1,vi d),(2,.sc (.ptr 0 0)),(5,.sc (.sl .nil 1 [])),(10,vi b.sleeps.length),(11,vi 0)],[.var b.o]⟩ Q =
 Q (.exit 0) ⟨[(1,vi d),(2,.sc (.ptr 0 0)),(5,.sc (ownC 1 (nums (b.e5i d)))),(10,vi b.sleeps.length),(11,vi b.sleeps.length),(12,vb false)],[.var b.o]⟩:=by
 have h3:=hs.ss
 have h4:=hs.st.s3
 refine (a4Q (fun j=>⟨[(1,vi d),(2,.sc (.ptr 0 0)),(5,.sc (ownC 1 (nums (b.d2x d j)))),(10,vi b.sleeps.length),(11,vi j)],[.var b.o]⟩) b.sleeps
  (.exit 0,⟨[(1,vi d),(2,.sc (.ptr 0 0)),(5,.sc (ownC 1 (nums (b.e5i d)))),(10,vi b.sleeps.length),(11,vi b.sleeps.length),(12,vb false)],[.var b.o]⟩) Q ?_ ?_ ?_).trans ?_
 ·rfl
 ·intro j x hx
  have hj:=(List.getElem?_eq_some_iff.1 hx).1
  have hlt:=decide_eq_true (show (j:Int)<b.sleeps.length by omega)
  have hjw:IntKind.i64.wrap ((j:Int)+1)=j+1:=wrap_i64 (by omega) (by omega)
  have hk:=e9m b d j
  have happ:=a2K 1 (nums (b.d2x d j)) .full [ci j] (by rw [e4t];simp only [room];omega)
  have hn:nums (b.d2x d j)++[[ci j]]=nums (b.d2x d j++[(j:Int)]):=by simp [nums]
  rw [hn] at happ
  simp only [PBook.d2x]
  cases hg:gotB b.e7q j d with
  | true =>
   have hown:C.own false 1 (nums (b.d2x d j++[(j:Int)]))=ownC 1 (nums (b.d2x d j++[(j:Int)])):=by cases b.d2x d j<;>rfl
   simp only [go_sem,simprocAttr,e4R,hlt,hjw,hg,happ]
   try rw [hown]
   try rfl
  | false =>
   simp only [go_sem,simprocAttr,e4R,hlt,hjw,hg]
   try rfl
 ·have hlt:=decide_eq_false (show ¬ (b.sleeps.length:Int)<b.sleeps.length by omega)
  simp only [go_sem,simprocAttr,e4R,hlt]
  rfl
 ·rfl
theorem e9n (b:PBook) (hs:PSane b) (d:Int):K Γ (.fn 273) [.agg b.o,vi d] []=some (.sc (.sl (kU (b.e5i d)) 1 (nums (b.e5i d))),[]):=by
 have h0 {β:Type} (Q:Ex->St->Option β):=f2H (Γ:=Γ) b hs d Q
 have hS:=e8t 1 (nums (b.e5i d)) (b.e5i d).length (e4t _)
 have hU:a0r (ownC 1 (nums (b.e5i d)))=.sl (kS (b.e5i d)) 1 (nums (b.e5i d)):=by cases b.e5i d<;>rfl
 rw [hU,e9N] at hS
 rw [K_fn P04.f273 _ _ rfl]
 simp only [go_sem,simprocAttr,e5J,h0,hS,hU,e4t]
theorem f3j (k:SK) (l:List Int) (hl:l.length<=1000):K Γ (.fn 345) [.sc (.sl k 1 (nums l))] []=some (vi (sumW l),[]):=by
 have h0 {β:Type} (Q:Ex->St->Option β):E Γ e7Q ⟨[(3,vi 0),(6,.sc (.sl k 1 (nums l))),(7,vi l.length),(8,vi 0)],[]⟩ Q =
  Q (.exit 0) ⟨[(3,vi (sumW l)),(6,.sc (.sl k 1 (nums l))),(7,vi l.length),(8,vi l.length),(9,vb false)],[]⟩:=by
  refine (a4Q (fun j=>⟨[(3,vi (sumW (l.take j))),(6,.sc (.sl k 1 (nums l))),(7,vi l.length),(8,vi j)],[]⟩) l
   (.exit 0,⟨[(3,vi (sumW l)),(6,.sc (.sl k 1 (nums l))),(7,vi l.length),(8,vi l.length),(9,vb false)],[]⟩) Q ?_ ?_ ?_).trans ?_
  ·rfl
  ·intro j x hx
   have hj:=(List.getElem?_eq_some_iff.1 hx).1
   have hlt:=decide_eq_true (show (j:Int)<l.length by omega)
   have hjw:IntKind.i64.wrap ((j:Int)+1)=j+1:=wrap_i64 (by omega) (by omega)
   have hn:(nums l)[j]?=some [ci x]:=by rw [e7n,hx];rfl
   rw [take_snoc hx,sumW_snoc]
   (simp only [go_sem,simprocAttr,e5v,hlt,hjw,hn];repeat' ((first|refine brY ?_|refine brN ?_|refine brA ?_|refine brD ?_|refine brF ?_);(try simp only [go_sem,simprocAttr,e5v,hlt,hjw,hn])))
   rfl
  ·have hlt:=decide_eq_false (show ¬ (l.length:Int)<l.length by omega)
   rw [List.take_length]
   (simp only [go_sem,simprocAttr,e5v,hlt];repeat' ((first|refine brY ?_|refine brN ?_|refine brA ?_|refine brD ?_|refine brF ?_);(try simp only [go_sem,simprocAttr,e5v,hlt])))
  ·rfl
 rw [K_fn P04.f345 _ _ rfl]
 simp only [go_sem,simprocAttr,e6l,h0,e4t]
end
end Go.Pm.St
namespace Go.Pm.St
open Ac
def ones (l:List Int):List Int:=(l.filter fun n=>decide (n≠9)).map fun _=>1
def PBook.e6K (b:PBook) (l:List Int):List Int:=(l.filter fun n=>decide (n≠9)).map fun d=>((b.e5i d).length:Int)
def D3.holds (x:D3):Int:=sumW (ones x.l)
def PBook.keeps (b:PBook) (x:D3):Int:=sumW (b.e6K x.l)
abbrev e6u:D3:=⟨9,9,9⟩
theorem f2d (l:List Int) (n:Int):ones (l++[n])=if n=9 then ones l else ones l++[1]:=by
 by_cases h:n=9<;>simp [ones,List.filter_append,h]
theorem f0U (b:PBook) (l:List Int) (n:Int):b.e6K (l++[n])=if n=9 then b.e6K l else b.e6K l++[((b.e5i n).length:Int)]:=by
 by_cases h:n=9<;>simp [PBook.e6K,List.filter_append,h]
theorem f0D (l:List Int):(ones l).length<=l.length:=by simp only [ones,List.length_map];exact List.length_filter_le _ _
theorem e9A (b:PBook) (l:List Int):(b.e6K l).length<=l.length:=by simp only [PBook.e6K,List.length_map];exact List.length_filter_le _ _
theorem e7r (b:PBook) (d:Int):(b.e5i d).length<=b.sleeps.length:=e9m b d _
theorem f0E (l:List Int) (n:Int):C.own false 1 (nums (l++[n]))=ownC 1 (nums (l++[n])):=by cases l<;>rfl
theorem e9d (l:List Int):a0r (ownC 1 (nums l))=.sl (kS l) 1 (nums l):=by cases l<;>rfl
section
variable {Γ:Env} [P04 Γ] [G04 Γ] [GCo Γ] [GPr Γ]
theorem f3v (x:D3) (o:Obj) (ho:∀ n,o.under n=true) {β:Type} (Q:Ex->St->Option β) :
 E Γ e7B ⟨[(3,.sc (.sl .nil 1 [])),(11,.agg x.c),(12,vi 0)],[o]⟩ Q =
 Q (.exit 0) ⟨[(3,.sc (ownC 1 (nums (ones x.l)))),(11,.agg x.c),(12,vi 3),(13,vb false)],[o]⟩:=by
 refine (a4Q (fun j=>⟨[(3,.sc (ownC 1 (nums (ones (x.l.take j))))),(11,.agg x.c),(12,vi j)],[o]⟩) x.l
  (.exit 0,⟨[(3,.sc (ownC 1 (nums (ones x.l)))),(11,.agg x.c),(12,vi 3),(13,vb false)],[o]⟩) Q ?_ ?_ ?_).trans ?_
 ·rfl
 ·intro j n hx
  have hj:=(List.getElem?_eq_some_iff.1 hx).1
  rw [D3.len] at hj
  have hlt:=decide_eq_true (show (j:Int)<3 by omega)
  have hjw:IntKind.i64.wrap ((j:Int)+1)=j+1:=wrap_i64 (by omega) (by omega)
  have hn:x.c[j]?=some (ci n):=by rw [D3.get,hx];rfl
  have hl:=f0D (x.l.take j)
  rw [List.length_take] at hl
  have happ:=a2K 1 (nums (ones (x.l.take j))) .full [ci 1] (by rw [e4t];simp only [room];omega)
  rw [show nums (ones (x.l.take j))++[[ci 1]]=nums (ones (x.l.take j)++[1]) by simp [nums]] at happ
  rw [take_snoc hx,f2d]
  by_cases h9:n=9
  ·have d9:=decide_eq_true h9
   rw [if_pos h9]
   (simp only [go_sem,simprocAttr,e4U,hlt,hjw,hn,d9,ho];repeat' ((first|refine brY ?_|refine brN ?_|refine brA ?_|refine brD ?_|refine brF ?_);(try simp only [go_sem,simprocAttr,e4U,hlt,hjw,hn,d9,ho])))
   rfl
  ·have d9:=decide_eq_false h9
   rw [if_neg h9]
   (simp only [go_sem,simprocAttr,e4U,hlt,hjw,hn,d9,happ,ho];repeat' ((first|refine brY ?_|refine brN ?_|refine brA ?_|refine brD ?_|refine brF ?_);(try simp only [go_sem,simprocAttr,e4U,hlt,hjw,hn,d9,happ,ho])))
   rfl
 ·have hlt:=decide_eq_false (show ¬ (3:Int)<3 by omega)
  rw [D3.len,show x.l.take 3=x.l from rfl]
  (simp only [go_sem,simprocAttr,e4U,hlt,ho];repeat' ((first|refine brY ?_|refine brN ?_|refine brA ?_|refine brD ?_|refine brF ?_);(try simp only [go_sem,simprocAttr,e4U,hlt,ho])))
  try rfl
 ·rfl
theorem key3 (a b c:Int):a0c [1,1,1] [.int .i64 a,.int .i64 b,.int .i64 c] [.int .i64 9,.int .i64 9,.int .i64 9]=some (decide ((⟨a,b,c⟩:D3)=e6u)):=by
 simp only [a0c,a0g,if_true,D3.mk.injEq,Option.some.injEq,Bool.and_true]
 rw [Bool.eq_iff_iff]
 simp
theorem f1e (b:PBook) (x:D3):K Γ (.fn 348) [.agg (P27 x b.o)] []=some (vi x.holds,[]):=by
 have h0 {β:Type} (Q:Ex->St->Option β):=f3v (Γ:=Γ) x (.var (P27 x b.o)) (fun n=>by simp [PBook.o,go_sem,Obj.under]) Q
 have hk:=key3 x.d0 x.d1 x.d2
 have hsum:=f3j (Γ:=Γ) (kS (ones x.l)) (ones x.l) (by have:=f0D x.l;rw [D3.len] at this;omega)
 have hu:=e9d (ones x.l)
 by_cases h:x=e6u
 ·have e:x.holds=0:=by subst h;rfl
  have d9:decide ((⟨x.d0,x.d1,x.d2⟩:D3)=e6u)=true:=decide_eq_true h
  rw [d9] at hk
  rw [e]
  rw [K_fn P04.f348 _ _ rfl]
  simp only [go_sem,simprocAttr,e5k,D3.c,hk]
 ·have d9:decide ((⟨x.d0,x.d1,x.d2⟩:D3)=e6u)=false:=decide_eq_false h
  rw [d9] at hk
  simp only [D3.c] at h0
  rw [K_fn P04.f348 _ _ rfl]
  simp only [go_sem,simprocAttr,e5k,D3.c,hk,h0,hu,hsum]
  rfl
theorem f3A (b:PBook) (hs:PSane b) (x:D3) {β:Type} (Q:Ex->St->Option β) :
 E Γ e7C ⟨[(1,.sc (.ptr 0 0)),(3,.sc (.sl .nil 1 [])),(7,.agg x.c),(8,vi 0)],[.var (P27 x b.o)]⟩ Q =
 Q (.exit 0) ⟨[(1,.sc (.ptr 0 0)),(3,.sc (ownC 1 (nums (b.e6K x.l)))),(7,.agg x.c),(8,vi 3),(9,vb false)],[.var (P27 x b.o)]⟩:=by
 refine (a4Q (fun j=>⟨[(1,.sc (.ptr 0 0)),(3,.sc (ownC 1 (nums (b.e6K (x.l.take j))))),(7,.agg x.c),(8,vi j)],[.var (P27 x b.o)]⟩) x.l
  (.exit 0,⟨[(1,.sc (.ptr 0 0)),(3,.sc (ownC 1 (nums (b.e6K x.l)))),(7,.agg x.c),(8,vi 3),(9,vb false)],[.var (P27 x b.o)]⟩) Q ?_ ?_ ?_).trans ?_
 ·rfl
 ·intro j n hx
  have hj:=(List.getElem?_eq_some_iff.1 hx).1
  rw [D3.len] at hj
  have hlt:=decide_eq_true (show (j:Int)<3 by omega)
  have hjw:IntKind.i64.wrap ((j:Int)+1)=j+1:=wrap_i64 (by omega) (by omega)
  have hn:x.c[j]?=some (ci n):=by rw [D3.get,hx];rfl
  have hl:=e9A b (x.l.take j)
  rw [List.length_take] at hl
  have happ:=a2K 1 (nums (b.e6K (x.l.take j))) .full [ci (b.e5i n).length] (by rw [e4t];simp only [room];omega)
  rw [show nums (b.e6K (x.l.take j))++[[ci (b.e5i n).length]]=nums (b.e6K (x.l.take j)++[((b.e5i n).length:Int)]) by simp [nums]] at happ
  have hk:=e9n (Γ:=Γ) b hs n
  rw [take_snoc hx,f0U]
  by_cases h9:n=9
  ·have d9:=decide_eq_true h9
   rw [if_pos h9]
   (simp only [go_sem,simprocAttr,e4V,hlt,hjw,hn,d9];repeat' ((first|refine brY ?_|refine brN ?_|refine brA ?_|refine brD ?_|refine brF ?_);(try simp only [go_sem,simprocAttr,e4V,hlt,hjw,hn,d9])))
   rfl
  ·have d9:=decide_eq_false h9
   rw [if_neg h9]
   (simp only [go_sem,simprocAttr,e4V,hlt,hjw,hn,d9,happ,hk,e4t];repeat' ((first|refine brY ?_|refine brN ?_|refine brA ?_|refine brD ?_|refine brF ?_);(try simp only [go_sem,simprocAttr,e4V,hlt,hjw,hn,d9,happ,hk,e4t])))
   rfl
 ·have hlt:=decide_eq_false (show ¬ (3:Int)<3 by omega)
  rw [D3.len,show x.l.take 3=x.l from rfl]
  (simp only [go_sem,simprocAttr,e4V,hlt];repeat' ((first|refine brY ?_|refine brN ?_|refine brA ?_|refine brD ?_|refine brF ?_);(try simp only [go_sem,simprocAttr,e4V,hlt])))
  try rfl
 ·rfl
theorem e9O (b:PBook) (hs:PSane b) (x:D3):K Γ (.fn 349) [.agg (P27 x b.o)] []=some (vi (b.keeps x),[]):=by
 have h0 {β:Type} (Q:Ex->St->Option β):=f3A (Γ:=Γ) b hs x Q
 have hsum:=f3j (Γ:=Γ) (kS (b.e6K x.l)) (b.e6K x.l) (by have:=e9A b x.l;rw [D3.len] at this;omega)
 have hu:=e9d (b.e6K x.l)
 rw [K_fn P04.f349 _ _ rfl]
 simp only [go_sem,simprocAttr,e5O,h0,hu,hsum]
 rfl
end
/-! ### What is asked -/
def PBook.can (b:PBook):Bool:=!b.cold.now.isEmpty&&!b.st.now.isEmpty
def PBook.err (b:PBook) (is:Bool):Int:=if b.valid then if is then if b.can then 0 else 102 else 101 else 100
theorem e7s {b:PBook} {is:Bool} (h:b.err is=0):b.valid=true/\is=true/\b.can=true:=by
 simp only [PBook.err] at h
 cases h1:b.valid<;>cases h2:is<;>cases h3:b.can<;>simp [h1,h2,h3] at h ⊢
section
variable {Γ:Env} [P04 Γ] [G04 Γ] [GCo Γ] [GPr Γ]
theorem e9s (b:PBook) [hb:b.Fits]:K Γ (.fn 234) [.agg b.c] []=some (.tup [vb (b.valid&&b.can),vi (if b.valid then 0 else 100)],[]):=by
 have hc:=f0F (Γ:=Γ) b
 cases hv:b.valid with
 | false =>
  rw [hv] at hc
  rw [K_fn P04.f234 _ _ rfl]
  simp only [go_sem,simprocAttr,e5D,hc]
 | true =>
  rw [hv] at hc
  have h1:=f2v (Γ:=Γ) b.cold
  have h2:=d3q (Γ:=Γ) b.st
  rw [e8s hv] at h1
  rw [e9Y hv] at h2
  simp only [PBook.can]
  cases e1:b.cold.now.isEmpty<;>cases e2:b.st.now.isEmpty<;>rw [e1] at h1<;>rw [e2] at h2<;>(rw [K_fn P04.f234 _ _ rfl];simp only [go_sem,simprocAttr,e5D,hc,h1,h2])
theorem e5y:a0R Z24 0 24=some Z24:=rfl
theorem e7S (b:PBook) [hb:b.Fits] (is:Bool):∃ cs,K Γ (.fn 272) [.agg b.c,vb is] []=some (.tup [.agg cs,vi (b.err is)],[])/\cs=if b.err is=0 then b.o else Z24:=by
 have hR:=e9s (Γ:=Γ) b
 refine ⟨_,?_,rfl⟩
 cases hv:b.valid with
 | false =>
  have e:b.err is=100:=by simp [PBook.err,hv]
  rw [hv] at hR
  rw [e]
  rw [K_fn P04.f272 _ _ rfl]
  (simp only [go_sem,simprocAttr,e5E,hR];repeat' ((first|with_reducible refine brD ?_|with_reducible refine brF ?_|with_reducible refine brY ?_|with_reducible refine brN ?_|with_reducible refine brA ?_);(try simp only [go_sem,simprocAttr,e5E,hR])))
  try rfl
 | true =>
  rw [hv] at hR
  cases is with
  | false =>
   have e:b.err false=101:=by simp [PBook.err,hv]
   rw [e]
   rw [K_fn P04.f272 _ _ rfl]
   (simp only [go_sem,simprocAttr,e5E,hR];repeat' ((first|with_reducible refine brD ?_|with_reducible refine brF ?_|with_reducible refine brY ?_|with_reducible refine brN ?_|with_reducible refine brA ?_);(try simp only [go_sem,simprocAttr,e5E,hR])))
   try rfl
  | true =>
   cases hc:b.can with
   | false =>
    have e:b.err true=102:=by simp [PBook.err,hv,hc]
    rw [e]
    rw [hc] at hR
    rw [K_fn P04.f272 _ _ rfl]
    (simp only [go_sem,simprocAttr,e5E,hR];repeat' ((first|with_reducible refine brD ?_|with_reducible refine brF ?_|with_reducible refine brY ?_|with_reducible refine brN ?_|with_reducible refine brA ?_);(try simp only [go_sem,simprocAttr,e5E,hR])))
    try rfl
   | true =>
    have e:b.err true=0:=by simp [PBook.err,hv,hc]
    have ho:=f2h (Γ:=Γ) b (e6h hv)
    rw [e]
    rw [hc] at hR
    rw [K_fn P04.f272 _ _ rfl]
    (simp only [go_sem,simprocAttr,e5E,hR,ho,e8X];repeat' ((first|with_reducible refine brD ?_|with_reducible refine brF ?_|with_reducible refine brY ?_|with_reducible refine brN ?_|with_reducible refine brA ?_);(try simp only [go_sem,simprocAttr,e5E,hR,ho,e8X])))
    try rfl
end
end Go.Pm.St
namespace Go.Pm.St
open Ac
def fl (D:List Int):List C:=D.map fun n=>ci n
@[go_sem] theorem f4g (D:List Int):(fl D).length=D.length:=by simp [fl]
theorem e9x (D:List Int) (i:Nat) (x:Int) (h:D[i]?=some x):(fl D)[i]?=some (ci x):=by simp [fl,h]
theorem f1M (D:List Int) (i:Nat) (x:Int):(fl D).set i (ci x)=fl (D.set i x):=by simp [fl,List.map_set]
@[go_sem] theorem f2E (n:Nat):∀ D:List Int,C.a0G n (fl D)=true
 | []=>rfl
 | x::D=>by
  show (C.under n (ci x)&&C.a0G n (fl D))=true
  rw [f2E n D];rfl
theorem f3q (D:List Int):(nums D).flatten=fl D:=by induction D with
 | nil=>rfl
 | cons x D ih=>simp only [nums,fl,List.map_cons,List.flatten_cons] at *;rw [ih];rfl
def el (D:List Int) (k:Nat):Int:=D[k]?.getD 0
theorem f1J {D:List Int} {k:Nat} (h:k<D.length):D[k]?=some (el D k):=by simp [el,h]
def swp (D:List Int) (p q:Nat):List Int:=(D.set p (el D q)).set q (el D p)
@[simp] theorem f1l (D:List Int) (p q:Nat):(swp D p q).length=D.length:=by simp [swp]
def sink:List Int->Nat->List Int × Nat
 | D,0=>(D,0)
 | D,j+1=>if el D (j+1)<el D j then sink (swp D (j+1) j) j else (D,j+1)
theorem f0O:∀ (j:Nat) (D:List Int),(sink D j).1.length=D.length
 | 0,_=>rfl
 | j+1,D=>by
  simp only [sink]
  split
  ·rw [f0O j,f1l]
  ·rfl
def isrt (D:List Int):Nat->List Int
 | 0=>D
 | i+1=>(sink (isrt D i) (i+1)).1
theorem e9l (D:List Int):∀ i,(isrt D i).length=D.length
 | 0=>rfl
 | i+1=>by rw [isrt,f0O,e9l D i]
abbrev rowN (r n:Nat):V:=.sc (.msl r 0 n 0 1)
section
variable {Γ:Env} [P04 Γ] [G04 Γ]
theorem f4w (x y:Int):K Γ (.fn 330) [vi x,vi y] []=some (vb (decide (x<y)),[]):=by
 rw [K_fn P04.f330 _ _ rfl]
 simp only [go_sem,simprocAttr,cmp_Less_int]
theorem f3w (H:List Obj) (N r:Nat) (hn:H.length=N) (hr:r<N) (hu:H.all (Obj.under N)=true) (n:Nat) (hl:n<=1000) (e2:V) (e6:V) (h2:e2.under N=true) (h6:e6.under N=true) (u2:e2.a0r=e2) (u6:e6.a0r=e6) {β:Type} (Q:Ex->St->Option β):∀ (j:Nat) (D:List Int),D.length=n->j<n →
 E Γ e6L ⟨[(0,rowN r n),(1,vi 0),(2,e2),(6,e6),(7,vi j)],H.set r (.var (fl D))⟩ Q =
 Q (.exit 2) ⟨[(0,rowN r n),(1,vi 0),(2,e2),(6,e6),(7,vi (sink D j).2),(30,vb false)],H.set r (.var (fl (sink D j).1))⟩:=by
 have hrl:r<H.length:=by omega
 have hg (v:Obj):(H.set r v)[r]?=some v:=b1c _ _ _ hrl
 have hun (v:List Int):(H.set r (.var (fl v))).all (Obj.under N)=true:=a6R _ _ _ _ hu (by simp [go_sem])
 have hT (v:Obj):(H.set r v).take N=H.set r v:=List.take_of_length_le (by simp [hn])
 intro j
 induction j with
 | zero =>
  intro D hD hj
  have hp0:decide ((0:Int)<((0:Nat):Int))=false:=rfl
  show E Γ (.loop _ e4z) _ Q=_
  rw [a1J]
  (simp only [go_sem,simprocAttr,e4z,hp0];repeat' ((first|refine brY ?_|refine brN ?_|refine brA ?_|refine brD ?_|refine brF ?_);(try simp only [go_sem,simprocAttr,e4z,hp0])))
  try rfl
 | succ q ih =>
  intro D hD hj
  have hA:=e9x _ _ _ (f1J (D:=D) (k:=q+1) (by omega))
  have hB:=e9x _ _ _ (f1J (D:=D) (k:=q) (by omega))
  have hp0:decide ((0:Int)<((q+1:Nat):Int))=true:=decide_eq_true (by omega)
  have hw:IntKind.i64.wrap (((q+1:Nat):Int) - 1)=(q:Int):=by rw [wrap_i64 (by omega) (by omega)];omega
  have hb1:decide (0<=((q+1:Nat):Int)/\((q+1:Nat):Int)<n)=true:=decide_eq_true (by omega)
  have hb2:decide (0<=(q:Int)/\(q:Int)<n)=true:=decide_eq_true (by omega)
  have hL:=f4w (Γ:=Γ) (el D (q+1)) (el D q)
  show E Γ (.loop _ e4z) _ Q=_
  rw [a1J]
  by_cases hc:el D (q+1)<el D q
  ·have dc:=decide_eq_true hc
   rw [dc] at hL
   have hS1:=f1M D (q+1) (el D q)
   have hS2:=f1M (D.set (q+1) (el D q)) q (el D (q+1))
   have hsw:(D.set (q+1) (el D q)).set q (el D (q+1))=swp D (q+1) q:=rfl
   rw [hsw] at hS2
   have hq1:decide (q+1+1<=D.length)=true:=decide_eq_true (by omega)
   have hq2:decide (q+1<=D.length)=true:=decide_eq_true (by omega)
   have e:sink D (q+1)=sink (swp D (q+1) q) q:=by simp only [sink,if_pos hc]
   have:=ih (swp D (q+1) q) (by rw [f1l];exact hD) (by omega)
   rw [e, ← this]
   (simp only [go_sem,simprocAttr,e4z,hp0,hw,hb1,hb2,hq1,hq2,hg,hA,hB,hS1,hS2,hL,hn,a0E,hrl,hT,hun,h2,h6,u2,u6,Int.toNat_natCast,Nat.zero_add,Nat.mul_one,List.length_set];repeat' ((first|refine brY ?_|refine brN ?_|refine brA ?_|refine brD ?_|refine brF ?_);(try simp only [go_sem,simprocAttr,e4z,hp0,hw,hb1,hb2,hq1,hq2,hg,hA,hB,hS1,hS2,hL,hn,a0E,hrl,hT,hun,h2,h6,u2,u6,Int.toNat_natCast,Nat.zero_add,Nat.mul_one,List.length_set])))
   try rfl
  ·have dc:=decide_eq_false hc
   rw [dc] at hL
   have e:sink D (q+1)=(D,q+1):=by simp only [sink,if_neg hc]
   rw [e]
   simp only [go_sem,simprocAttr,e4z,hp0,hw,hb1,hb2,hg,hA,hB,hL,hn,a0E,hrl,u2,u6,Int.toNat_natCast,Nat.zero_add,Nat.mul_one]
   try rfl
theorem f4p (H:List Obj) (N r:Nat) (hn:H.length=N) (hr:r<N) (hu:H.all (Obj.under N)=true) (D:List Int) (n:Nat) (hD:D.length=n) (hl:n<=1000) (hH:H[r]?=some (.var (fl D))) :
 K Γ (.fn 324) [rowN r n,vi 0,vi n] H=some (.tup [],H.set r (.var (fl (isrt D (n - 1))))):=by
 have hrl:r<H.length:=by omega
 have hun (v:List Int):(H.set r (.var (fl v))).all (Obj.under N)=true:=a6R _ _ _ _ hu (by simp [go_sem])
 have hT (v:Obj):(H.set r v).take N=H.set r v:=List.take_of_length_le (by simp [hn])
 have h0:H.set r (.var (fl D))=H:=b1j _ _ _ hH
 have hL {β:Type} (Q:Ex->St->Option β):E Γ e6e ⟨[(0,rowN r n),(1,vi 0),(2,vi n),(6,vi 1)],H⟩ Q =
  Q (.exit 0) ⟨[(0,rowN r n),(1,vi 0),(2,vi n),(6,vi (((n - 1:Nat):Int)+1)),(12,vb false)],H.set r (.var (fl (isrt D (n - 1))))⟩:=by
  refine a4q (n - 1) (fun i (_:Unit)=>⟨[(0,rowN r n),(1,vi 0),(2,vi n),(6,vi ((i:Int)+1))],H.set r (.var (fl (isrt D i)))⟩) (fun _ _=>True)
   (fun _=>(.exit 0,⟨[(0,rowN r n),(1,vi 0),(2,vi n),(6,vi (((n - 1:Nat):Int)+1)),(12,vb false)],H.set r (.var (fl (isrt D (n - 1))))⟩)) () ?_ trivial ?_ ?_ (fun _ _=>rfl)
  ·simp only [isrt,h0];rfl
  ·intro i _ hi _
   refine ⟨(),trivial,?_⟩
   have hlt:decide ((i:Int)+1<n)=true:=decide_eq_true (by omega)
   have hiw:IntKind.i64.wrap ((i:Int)+1+1)=((i+1:Nat):Int)+1:=by rw [wrap_i64 (by omega) (by omega)];omega
   have h1 {β:Type} (Q:Ex->St->Option β):=f3w (Γ:=Γ) H N r hn hr hu n hl (vi n) (vi ((i:Int)+1)) rfl rfl rfl rfl Q (i+1) (isrt D i) (by rw [e9l];exact hD) (by omega)
   rw [show (((i+1:Nat):Int))=(i:Int)+1 from by omega] at h1 hiw ⊢
   simp only [isrt]
   (simp only [go_sem,simprocAttr,e4J,hlt,hiw,h1,hn,a0E,hrl,hT,hun];repeat' ((first|refine brY ?_|refine brN ?_|refine brA ?_|refine brD ?_|refine brF ?_);(try simp only [go_sem,simprocAttr,e4J,hlt,hiw,h1,hn,a0E,hrl,hT,hun])))
   try rfl
  ·intro _ _
   have hlt:decide (((n - 1:Nat):Int)+1<n)=false:=decide_eq_false (by omega)
   simp only [go_sem,simprocAttr,e4J,hlt]
   try rfl
 rw [K_fn P04.f324 _ _ rfl]
 simp only [go_sem,simprocAttr,e5c,hL,hn,a0E,hT,hun]
theorem f3R (H:List Obj) (N r:Nat) (hn:H.length=N) (hr:r<N) (hu:H.all (Obj.under N)=true) (D:List Int) (n:Nat) (hD:D.length=n) (hl:n<=12) (hH:H[r]?=some (.var (fl D))) :
 K Γ (.fn 308) [rowN r n] H=some (.tup [],H.set r (.var (fl (isrt D (n - 1))))):=by
 have hrl:r<H.length:=by omega
 have hun (v:List Int):(H.set r (.var (fl v))).all (Obj.under N)=true:=a6R _ _ _ _ hu (by simp [go_sem])
 have hT (v:Obj):(H.set r v).take N=H.set r v:=List.take_of_length_le (by simp [hn])
 have hI:=f4p (Γ:=Γ) H N r hn hr hu D n hD (by omega) hH
 obtain ⟨v, -, -,hv⟩:=c0k (Γ:=Γ) n (by omega)
 have hc:IntKind.u64.wrap (n:Int)=n:=by
  have:n=0\/n=1\/n=2\/n=3\/n=4\/n=5\/n=6\/n=7\/n=8\/n=9\/n=10\/n=11\/n=12:=by omega
  rcases this with rfl|rfl|rfl|rfl|rfl|rfl|rfl|rfl|rfl|rfl|rfl|rfl|rfl<;>decide
 have hw:IntKind.i64.wrap ((n:Int) - 0)=n:=by rw [wrap_i64 (by omega) (by omega)];omega
 have hle:decide ((n:Int)<=12)=true:=decide_eq_true (by omega)
 have hP:K Γ (.fn 319) [rowN r n,vi 0,vi n,vi v] H=some (.tup [],H.set r (.var (fl (isrt D (n - 1))))):=by
  rw [K_fn P04.f319 _ _ rfl]
  simp only [e5P,e6C]
  simp only [go_sem,simprocAttr,a1J,e6B,hw,hle,hI,hn,a0E,hT,hun]
  try simp only [go_sem,simprocAttr,hw,hle,hI,hn,a0E,hT,hun]
 rw [K_fn P04.f308 _ _ rfl]
 simp only [go_sem,simprocAttr,e5l,hc,hv,hP,hn,a0E,hT,hun]
theorem f3Q (H:List Obj) (N:Nat) (hn:H.length=N) (hu:H.all (Obj.under N)=true):K Γ (.fn 308) [.sc (.sl .nil 1 [])] H=some (.tup [],H):=by
 have hT:H.take N=H:=List.take_of_length_le (by simp [hn])
 obtain ⟨v, -, -,hv⟩:=c0k (Γ:=Γ) 0 (by omega)
 have hI:K Γ (.fn 324) [.sc (.sl .nil 1 []),vi 0,vi 0] H=some (.tup [],H):=by
  rw [K_fn P04.f324 _ _ rfl]
  simp only [e5c,e6e]
  simp only [go_sem,simprocAttr,a1J,e4J,hn,a0E,hT,hu]
 have hP:K Γ (.fn 319) [.sc (.sl .nil 1 []),vi 0,vi 0,vi v] H=some (.tup [],H):=by
  rw [K_fn P04.f319 _ _ rfl]
  simp only [e5P,e6C]
  simp only [go_sem,simprocAttr,a1J,e6B,hI,hn,a0E,hT,hu]
 have hv':K Γ (.fn 161) [.sc (.int .u64 0)] []=some (vi v,[]):=hv
 have hw:IntKind.u64.wrap 0=0:=by decide
 rw [K_fn P04.f308 _ _ rfl]
 simp only [go_sem,simprocAttr,e5l,hw,hv',hP,hn,a0E,hT,hu]
end
end Go.Pm.St
namespace Go.Pm.St
open Ac
/-! Rows of days. -/
def flD (l:List Day):List C:=(l.map Day.c).flatten
theorem e7g (x:Day) (l:List Day):flD (x::l)=ci x.plain::ci x.full::ci x.needs::flD l:=rfl
@[go_sem] theorem f3p (l:List Day):(flD l).length=3*l.length:=by
 induction l with
 | nil=>rfl
 | cons x l ih=>rw [e7g];simp only [List.length_cons,ih];omega
theorem e9L:∀ (l:List Day) (d:Nat) (x:Day),l[d]?=some x->(flD l)[d*3]?=some (ci x.plain)/\(flD l)[d*3+1]?=some (ci x.full)/\(flD l)[d*3+2]?=some (ci x.needs)
 | [],d,x,h=>by simp at h
 | y::l,0,x,h=>by simp at h;subst h;exact ⟨rfl,rfl,rfl⟩
 | y::l,d+1,x,h=>by
  have:=e9L l d x (by simpa using h)
  rw [e7g,show (d+1)*3=d*3+1+1+1 from by omega]
  simpa using this
theorem e9M:∀ (l:List Day) (d:Nat) (x:Day),l[d]?=some x->(∀ v,(flD l).set (d*3) (ci v)=flD (l.set d { x with plain:=v }))/\∀ v,(flD l).set (d*3+2) (ci v)=flD (l.set d { x with needs:=v })
 | [],d,x,h=>by simp at h
 | y::l,0,x,h=>by simp at h;subst h;exact ⟨fun v=>rfl,fun v=>rfl⟩
 | y::l,d+1,x,h=>by
  have:=e9M l d x (by simpa using h)
  rw [e7g,show (d+1)*3=d*3+1+1+1 from by omega]
  refine ⟨fun v=>?_,fun v=>?_⟩
  ·simp only [List.set_cons_succ,e7g,this.1 v]
  ·simp only [Nat.add_right_comm _ 1 2,List.set_cons_succ,e7g,this.2 v]
@[go_sem] theorem f1L (n:Nat):∀ l:List Day,C.a0G n (flD l)=true
 | []=>rfl
 | x::l=>by rw [e7g];simp only [C.a0G,C.under,f1L n l,Bool.and_self]
theorem f0q:∀ (l:List Day),∀ c∈flD l,b1I c=true
 | [],c,h=>by simp [flD] at h
 | x::l,c,h=>by
  rw [e7g] at h
  simp only [List.mem_cons] at h
  rcases h with rfl|rfl|rfl|h
  ·rfl
  ·rfl
  ·rfl
  ·exact f0q l c h
theorem f1K:∀ l:List Day,(flD l).map a0r=flD l
 | []=>rfl
 | x::l=>by rw [e7g];simp only [List.map_cons,f1K l,a0r]
theorem f0r:∀ l:List Day,C.a0v (flD l)=true
 | []=>rfl
 | x::l=>by rw [e7g];simp only [C.a0v,C.pure,f0r l,Bool.and_self]
theorem e9w:∀ l:List Day,chunks (flD l) 0 3 l.length=some (l.map Day.c)
 | []=>rfl
 | x::l=>by
  have h:=b1A x.c (flD l) 3 l.length 0
  rw [e9w l,Nat.add_zero] at h
  have h3:x.c.length=3:=rfl
  rw [h3] at h
  have e:flD (x::l)=x.c++flD l:=rfl
  rw [e]
  simp only [List.length_cons,chunks,Nat.zero_add,h]
  rfl
theorem f3g:∀ l:List Int,(fl l).map a0r=fl l
 | []=>rfl
 | x::l=>by show a0r (ci x)::(fl l).map a0r=_;rw [f3g l];rfl
theorem f1b:∀ l:List Int,C.a0v (fl l)=true
 | []=>rfl
 | x::l=>by show (C.pure (ci x)&&C.a0v (fl l))=true;rw [f1b l];rfl
theorem f2D (l:List Int):∀ c∈fl l,b1I c=true:=by
 intro c hc
 obtain ⟨x,_,rfl⟩:=List.mem_map.1 hc
 rfl
theorem e9V:∀ l:List Int,chunks (fl l) 0 1 l.length=some (nums l)
 | []=>rfl
 | x::l=>by
  have h:=b1A [ci x] (fl l) 1 l.length 0
  rw [e9V l,Nat.add_zero] at h
  have e:fl (x::l)=[ci x]++fl l:=rfl
  rw [e]
  simp only [List.length_cons,List.length_nil,chunks,Nat.zero_add] at h ⊢
  rw [h]
  rfl
def B10 (b:Book) (d:C):List C:=[.sl b.ks 2 (b.singers.map Span.c),ci b.c0.lo,ci b.c0.hi,ci b.c1.lo,ci b.c1.hi,ci b.c2.lo,ci b.c2.hi,d,.sl b.kr 2 (b.rests.map Rest.c),.sl b.kg 4 (b.signs.map Sign.c)]
section
variable (b:Book) (d c:C)
@[go_sem] theorem f7S:(B10 b d)[7]?=some d:=nrfl rfl
@[go_sem] theorem f7T:(B10 b d)[8]?=some (.sl b.kr 2 (b.rests.map Rest.c)):=nrfl rfl
@[go_sem] theorem f7U:(B10 b d)[9]?=some (.sl b.kg 4 (b.signs.map Sign.c)):=nrfl rfl
@[go_sem] theorem f7i:(B10 b d).length=10:=nrfl rfl
@[go_sem] theorem f7h:a0R (B10 b d) 0 10=some (B10 b d):=nrfl rfl
@[go_sem] theorem f7y:(B10 b d).map a0r=B10 b (a0r d):=nrfl rfl
@[go_sem] theorem f6s (n:Nat):C.a0G n (B10 b d)=C.a0G n [d]:=nrfl rfl
@[go_sem] theorem f6L:(B10 b d).set 7 c=B10 b c:=nrfl rfl
@[go_sem] theorem f4D:a1H (B10 b d) 7 [c]=B10 b c:=nrfl rfl
@[go_sem] theorem Book.f7R:b.c.set 7 c=B10 b c:=nrfl rfl
@[go_sem] theorem Book.f6G:a1H b.c 7 [c]=B10 b c:=nrfl rfl
end
theorem f3t {t:List (Nat × V)} {i r n:Nat} {h:List Obj} (D:List Int) (hi:get t i=.sc (.msl r 0 n 0 1)) (hn:D.length=n) (hl:n<=300) (hr:h[r]?=some (.var (fl D))):a3G i ⟨t,h⟩=some ⟨(i,.sc (.sl .shared 1 (nums D)))::t,h.set r .dead⟩:=by
 subst hn
 have hm:a3p 400 (.msl r 0 D.length 0 1) h=some (.sl .shared 1 (nums D),h.set r .dead) :=
  b2J hr (f3g D) (f2D D) (by rw [f4g];omega) (f1b D) (e9V D)
 simp only [a3G,hi,hm]
theorem f4n {t:List (Nat × V)} (ht:get t 5=.sc (.ptr 2 0)) (x0 x1:Obj) (rest:List Obj) (b:Book) (l:List Day) (n:Nat) (hn:l.length=n) (hl:n<=100) :
 a3G 5 ⟨t,x0::x1::.var (B10 b (.msl 3 0 n 0 3))::.var (flD l)::rest⟩=some ⟨t,x0::x1::.var (B10 b (.sl .shared 3 (l.map Day.c)))::.dead::rest⟩:=by
 subst hn
 have hm (m:Nat) (hm:390<=m):a3p m (.msl 3 0 l.length 0 3) (x0::x1::.var (B10 b (.msl 3 0 l.length 0 3))::.var (flD l)::rest)=some (.sl .shared 3 (l.map Day.c),x0::x1::.var (B10 b (.msl 3 0 l.length 0 3))::.dead::rest):=by
  obtain ⟨k,rfl⟩:∃ k,m=k+1:=⟨m - 1,by omega⟩
  exact b2J rfl (f1K l) (f0q l) (by rw [f3p];omega) (f0r l) (e9w l)
 have hc:a2Z 400 (B10 b (.msl 3 0 l.length 0 3)) (x0::x1::.var (B10 b (.msl 3 0 l.length 0 3))::.var (flD l)::rest)=some (B10 b (.sl .shared 3 (l.map Day.c)),x0::x1::.var (B10 b (.msl 3 0 l.length 0 3))::.dead::rest):=by
  refine e5R (h':=x0::x1::.var (B10 b (.msl 3 0 l.length 0 3))::.var (flD l)::rest) rfl ?_
  refine e5R (h':=x0::x1::.var (B10 b (.msl 3 0 l.length 0 3))::.var (flD l)::rest) rfl ?_
  refine e5R (h':=x0::x1::.var (B10 b (.msl 3 0 l.length 0 3))::.var (flD l)::rest) rfl ?_
  refine e5R (h':=x0::x1::.var (B10 b (.msl 3 0 l.length 0 3))::.var (flD l)::rest) rfl ?_
  refine e5R (h':=x0::x1::.var (B10 b (.msl 3 0 l.length 0 3))::.var (flD l)::rest) rfl ?_
  refine e5R (h':=x0::x1::.var (B10 b (.msl 3 0 l.length 0 3))::.var (flD l)::rest) rfl ?_
  refine e5R (h':=x0::x1::.var (B10 b (.msl 3 0 l.length 0 3))::.var (flD l)::rest) rfl ?_
  refine e5R (hm 392 (by omega)) ?_
  rfl
 simp only [a3G,ht,List.getElem?_cons_succ,List.getElem?_cons_zero,hc]
 rfl
end Go.Pm.St
namespace Go.Pm.St
open Ac
def PBook.e9G (b:PBook) (j:Nat):Int:=(b.st.signs.take j).foldl (fun o y=>max o (y.day+1)) 0
def PBook.e7T (b:PBook):Int:=b.e9G b.st.signs.length
theorem f1x (b:PBook) {j:Nat} {y:Sign} (hy:b.st.signs[j]?=some y):b.e9G (j+1)=max (b.e9G j) (y.day+1):=by
 simp only [PBook.e9G,take_snoc hy,List.foldl_append,List.foldl_cons,List.foldl_nil]
def PBook.lay1 (b:PBook) (s:List Int × List Day) (i:Nat) (day:Int):Option (List Int × List Day) :=
 if day=9 then some s else match b.rehs[i]?,s.2[day.toNat]?,b.st.days[day.toNat]? with
  | some y,some z,some z0=>if within day (max b.e7T y.fr) y.til&&decide (z0.plain<=1)&&!s.1.contains day then some (s.1++[day],s.2.set day.toNat ⟨z.plain+1,z.full,max z.needs y.wants⟩) else none
  | _,_,_=>none
structure LInv (b:PBook) (i:Nat) (s:List Int × List Day):Prop where
 n:s.2.length=b.st.days.length
 p:∀ z∈s.2,(0<=z.plain/\z.plain<=2+i)/\(0<=z.full/\z.full<=2)/\(0<=z.needs/\z.needs<=3)
 o:s.1.length<=i
 d:∀ x∈s.1,0<=x/\x<b.st.days.length
theorem LInv.start (b:PBook) (hs:PSane b):LInv b 0 ([],b.st.days) :=
 ⟨rfl,fun z hz=>by have:=hs.st.dy z hz;omega,Nat.le_refl 0,by simp⟩
theorem e9f {b:PBook} (hs:PSane b) {s:List Int × List Day} {i:Nat} {day:Int} {y:Reh} (hI:LInv b i s) (hy:b.rehs[i]?=some y) (hw:within day (max b.e7T y.fr) y.til=true) :
 ∃ (d:Nat) (z z0:Day),day=d/\d<b.st.days.length/\s.2[d]?=some z/\b.st.days[d]?=some z0:=by
 have h1:=hs.rh y (List.mem_of_getElem? hy)
 have h2:=within_iff.1 hw
 refine ⟨day.toNat,s.2[day.toNat]'(by rw [hI.n];omega),b.st.days[day.toNat]'(by omega),by omega,by omega,List.getElem?_eq_getElem _,List.getElem?_eq_getElem _⟩
theorem e9p {b:PBook} (hs:PSane b) {s s':List Int × List Day} {i:Nat} {day:Int} (hI:LInv b i s) (h:b.lay1 s i day=some s'):LInv b (i+1) s':=by
 unfold PBook.lay1 at h
 split at h
 ·cases h
  exact ⟨hI.n,fun z hz=>by have:=hI.p z hz;omega,by have:=hI.o;omega,hI.d⟩
 ·split at h
  ·rename_i y z z0 hy hz hz0
   split at h
   ·rename_i hc
    simp only [Bool.and_eq_true] at hc
    obtain ⟨d,z',z0',rfl,hd, -, -⟩:=e9f hs hI hy hc.1.1
    cases h
    have h1:=hs.rh y (List.mem_of_getElem? hy)
    refine ⟨by simp [hI.n],fun w hw=>?_,by have:=hI.o;simp;omega,fun x hx=>?_⟩
    ·rcases List.mem_or_eq_of_mem_set hw with hw|rfl
     ·have:=hI.p w hw;omega
     ·have:=hI.p z (List.mem_of_getElem? hz)
      simp only;omega
    ·rcases List.mem_append.1 hx with hx|hx
     ·exact hI.d x hx
     ·simp at hx;subst hx;omega
   ·cases h
  ·cases h
section
variable {Γ:Env} [P04 Γ] [G04 Γ] [GCo Γ] [GPr Γ]
abbrev xO (b:PBook):Obj:=.var (B10 b.st (.msl 3 0 b.st.days.length 0 3))
theorem f4q (b:PBook) (hs:PSane b) (x:D3) (ds:List Day) {β:Type} (Q:Ex->St->Option β) :
 E Γ e7t ⟨[(2,.sc (.ptr 0 0)),(3,.sc (.ptr 1 0)),(5,.sc (.ptr 2 0)),(6,vi 0),(29,.sc (.sl b.st.kg 4 (b.st.signs.map Sign.c))),(30,vi b.st.signs.length),(31,vi 0)],[.var b.o,.var x.c,xO b,.var (flD ds)]⟩ Q =
 Q (.exit 0) ⟨[(2,.sc (.ptr 0 0)),(3,.sc (.ptr 1 0)),(5,.sc (.ptr 2 0)),(6,vi b.e7T),(29,.sc (.sl b.st.kg 4 (b.st.signs.map Sign.c))),(30,vi b.st.signs.length),(31,vi b.st.signs.length),(32,vb false)],[.var b.o,.var x.c,xO b,.var (flD ds)]⟩:=by
 have h4:=hs.st.g4
 refine (a4Q (fun j=>⟨[(2,.sc (.ptr 0 0)),(3,.sc (.ptr 1 0)),(5,.sc (.ptr 2 0)),(6,vi (b.e9G j)),(29,.sc (.sl b.st.kg 4 (b.st.signs.map Sign.c))),(30,vi b.st.signs.length),(31,vi j)],[.var b.o,.var x.c,xO b,.var (flD ds)]⟩) b.st.signs
  (.exit 0,⟨[(2,.sc (.ptr 0 0)),(3,.sc (.ptr 1 0)),(5,.sc (.ptr 2 0)),(6,vi b.e7T),(29,.sc (.sl b.st.kg 4 (b.st.signs.map Sign.c))),(30,vi b.st.signs.length),(31,vi b.st.signs.length),(32,vb false)],[.var b.o,.var x.c,xO b,.var (flD ds)]⟩) Q ?_ ?_ ?_).trans ?_
 ·rfl
 ·intro j y hy
  have hj:=(List.getElem?_eq_some_iff.1 hy).1
  have hd5:=hs.st.d5
  have h2:=(hs.st.sg _ (List.mem_of_getElem? hy)).2.1
  have hlt:=decide_eq_true (show (j:Int)<b.st.signs.length by omega)
  have hjw:IntKind.i64.wrap ((j:Int)+1)=j+1:=wrap_i64 (by omega) (by omega)
  have hyw:IntKind.i64.wrap (y.day+1)=y.day+1:=wrap_i64 (by omega) (by omega)
  rw [f1x b hy]
  (simp only [go_sem,simprocAttr,e5j,hy,hlt,hjw,hyw,List.length_map];repeat' ((first|refine brY ?_|refine brN ?_|refine brA ?_|refine brD ?_|refine brF ?_);(try simp only [go_sem,simprocAttr,e5j,hy,hlt,hjw,hyw,List.length_map])))
  try rfl
 ·have hlt:=decide_eq_false (show ¬ (b.st.signs.length:Int)<b.st.signs.length by omega)
  simp only [go_sem,simprocAttr,e5j,hlt]
  try rfl
 ·rfl
def isS (b:PBook) (x:D3) (i:Nat) (s:List Int × List Day):St :=
 ⟨[(2,.sc (.ptr 0 0)),(5,.sc (.ptr 2 0)),(6,vi b.e7T),(9,.sc (.own true 1 (nums s.1))),(41,.agg x.c),(42,vi i)],[.var b.o,.var x.c,xO b,.var (flD s.2)]⟩
theorem f3G (l:List Int) (d:Int) (h:l.length<=10):appended 1 (.sc (.own true 1 (nums l))) (.sc (.sl .full 1 [[ci d]]))=some (.own true 1 (nums (l++[d]))):=by
 have:l.length+1<=room:=by simp only [room];omega
 simp [appended,elems,e4t,this,f2J]
 simp [nums]
set_option maxHeartbeats 1000000 in
theorem f0z (b:PBook) (hs:PSane b) (x:D3) (i:Nat) (hi:i<3) (day:Int) (hx:x.l[i]?=some day) (hr:b.rehs.length<=i->day=9) (s:List Int × List Day) (hI:LInv b i s) :
 match b.lay1 s i day with
 | some s'=>∀ {β:Type} (Q:Ex->St->Option β),E Γ e5d (isS b x i s) Q=E Γ e5d (isS b x (i+1) s') Q
 | none=>∃ h',∀ {β:Type} (Q:Ex->St->Option β),E Γ e5d (isS b x i s) Q=Q .ret ⟨[(4,vb false)],h'⟩:=by
 have hlt:=decide_eq_true (show (i:Int)<3 by omega)
 have hiw:IntKind.i64.wrap ((i:Int)+1)=((i+1:Nat):Int):=by rw [wrap_i64 (by omega) (by omega)];omega
 have hn:x.c[i]?=some (ci day):=by rw [D3.get,hx];rfl
 have hL {β:Type} (S:St) (Q:Ex->St->Option β):E Γ e5d S Q=E Γ e4v S fun e s1=>match e with | .norm=>a0L (trim [2,5,6,9,41,42] S.h.length s1) fun s'=>E Γ e5d s' Q|e=>Q e s1:=a1J _ _ _ _ _
 by_cases h9:day=9
 ·have d9:=decide_eq_true h9
  have e:b.lay1 s i day=some s:=by simp only [PBook.lay1,if_pos h9]
  rw [e]
  intro β Q
  rw [hL]
  simp only [isS]
  (simp only [go_sem,simprocAttr,e4v,hlt,hiw,hn,d9];repeat' ((first|refine brY ?_|refine brN ?_|refine brA ?_|refine brD ?_|refine brF ?_);(try simp only [go_sem,simprocAttr,e4v,hlt,hiw,hn,d9])))
  try rfl
 ·have d9:=decide_eq_false h9
  have hy:b.rehs[i]?=some (b.rehs[i]'(by apply Classical.byContradiction;intro h;exact h9 (hr (by omega)))):=List.getElem?_eq_getElem _
  generalize b.rehs[i]'_=y at hy
  cases hw:within day (max b.e7T y.fr) y.til with
  | false =>
   have e:b.lay1 s i day=none:=by
    simp only [PBook.lay1,if_neg h9,hy]
    split
    ·rename_i e1 _ _;cases e1;rw [hw];rfl
    ·rfl
   rw [e]
   refine ⟨[.var b.o,.var x.c,xO b,.var (flD s.2),.var y.c],fun {β} Q=>?_⟩
   rw [hL]
   simp only [isS]
   (simp only [go_sem,simprocAttr,e4v,hlt,hiw,hn,d9,hy,hw];repeat' ((first|refine brY ?_|refine brN ?_|refine brA ?_|refine brD ?_|refine brF ?_);(try simp only [go_sem,simprocAttr,e4v,hlt,hiw,hn,d9,hy,hw])))
   try rfl
  | true =>
   obtain ⟨d,z,z0,rfl,hd,hz,hz0⟩:=e9f hs hI hy hw
   have e0:b.lay1 s i d=if decide (z0.plain<=1)&&!s.1.contains (d:Int) then some (s.1++[(d:Int)],s.2.set d ⟨z.plain+1,z.full,max z.needs y.wants⟩) else none:=by
    simp only [PBook.lay1,if_neg h9,Int.toNat_natCast,hy,hz,hz0,hw,Bool.true_and]
   rw [e0]
   cases hp:decide (z0.plain<=1) with
   | false =>
    have hp':decide (1<z0.plain)=true:=decide_eq_true (by have:=of_decide_eq_false hp;omega)
    simp only [Bool.false_and,Bool.false_eq_true,if_false]
    refine ⟨[.var b.o,.var x.c,xO b,.var (flD s.2),.var y.c],fun {β} Q=>?_⟩
    rw [hL]
    simp only [isS]
    (simp only [go_sem,simprocAttr,e4v,hlt,hiw,hn,d9,hy,hw,hz0,hp'];repeat' ((first|refine brY ?_|refine brN ?_|refine brA ?_|refine brD ?_|refine brF ?_);(try simp only [go_sem,simprocAttr,e4v,hlt,hiw,hn,d9,hy,hw,hz0,hp'])))
    try rfl
   | true =>
    have hp':decide (1<z0.plain)=false:=decide_eq_false (by have:=of_decide_eq_true hp;omega)
    have hC:=contains_k (Γ:=Γ) (kindOf (nums s.1)) s.1 d (by have:=hI.o;omega)
    change K Γ (.fn 76) [.sc (.sl (kindOf (nums s.1)) 1 (nums s.1)),vi d] []=_ at hC
    cases hc:s.1.contains (d:Int) with
    | true =>
     rw [hc] at hC
     simp only [Bool.true_and,Bool.not_true,Bool.false_eq_true,if_false]
     refine ⟨[.var b.o,.var x.c,xO b,.var (flD s.2),.var y.c],fun {β} Q=>?_⟩
     rw [hL]
     simp only [isS]
     (simp only [go_sem,simprocAttr,e4v,hlt,hiw,hn,d9,hy,hw,hz0,hp',hC];repeat' ((first|refine brY ?_|refine brN ?_|refine brA ?_|refine brD ?_|refine brF ?_);(try simp only [go_sem,simprocAttr,e4v,hlt,hiw,hn,d9,hy,hw,hz0,hp',hC])))
     try rfl
    | false =>
     rw [hc] at hC
     simp only [Bool.true_and,Bool.not_false,if_true]
     intro β Q
     rw [hL]
     have hd5:=hs.st.d5
     have hI1:=hI.p z (List.mem_of_getElem? hz)
     have happ:=f3G s.1 d (by have:=hI.o;omega)
     obtain ⟨g0, -,g2⟩:=e9L s.2 d z hz
     obtain ⟨s0, -⟩:=e9M s.2 d z hz
     have hz':(s.2.set d { z with plain:=z.plain+1 })[d]?=some { z with plain:=z.plain+1 }:=by
      rw [List.getElem?_set_self (by rw [hI.n];exact hd)]
     obtain ⟨-, -,g2'⟩:=e9L _ d _ hz'
     obtain ⟨-,s2'⟩:=e9M _ d _ hz'
     have hpw:IntKind.i64.wrap (z.plain+1)=z.plain+1:=wrap_i64 (by omega) (by omega)
     have hb:decide (0<=(d:Int)/\(d:Int)<b.st.days.length)=true:=decide_eq_true (by omega)
     have hq0:decide (d*3+1<=3*s.2.length)=true:=decide_eq_true (by have:=hI.n;omega)
     have hq2:decide (d*3+2+1<=3*s.2.length)=true:=decide_eq_true (by have:=hI.n;omega)
     simp only [List.set_set] at s2' 
     simp only [isS]
     (simp only [go_sem,simprocAttr,e4v,hlt,hiw,hn,d9,hy,hw,hz0,hp',hC,happ,g0,g2,g2',s0,s2',hpw,hb,hq0,hq2,Int.toNat_natCast,Nat.zero_add,List.length_set];repeat' ((first|refine brY ?_|refine brN ?_|refine brA ?_|refine brD ?_|refine brF ?_);(try simp only [go_sem,simprocAttr,e4v,hlt,hiw,hn,d9,hy,hw,hz0,hp',hC,happ,g0,g2,g2',s0,s2',hpw,hb,hq0,hq2,Int.toNat_natCast,Nat.zero_add,List.length_set])))
     try rfl
end
end Go.Pm.St
namespace Go.Pm.St
open Ac
def PBook.newN (b:PBook) (day:Int) (l:List Int):List Rest:=(l.filter fun s=>!b.st.rests.any (·.same ⟨day,s⟩)).map fun s=>⟨day,s⟩
def PBook.e5W (b:PBook) (on:List Int):List Rest:=(on.map fun d=>b.newN d (b.e5i d)).flatten
theorem f2a (b:PBook) (day:Int) (l:List Int) (s:Int):b.newN day (l++[s])=if b.st.rests.any (·.same ⟨day,s⟩) then b.newN day l else b.newN day l++[⟨day,s⟩]:=by
 cases h:b.st.rests.any (·.same ⟨day,s⟩)<;>simp [PBook.newN,List.filter_append,h]
theorem f0C (b:PBook) (day:Int) (l:List Int):(b.newN day l).length<=l.length:=by
 simp only [PBook.newN,List.length_map];exact List.length_filter_le _ _
theorem f0N (b:PBook) (on:List Int) (d:Int):b.e5W (on++[d])=b.e5W on++b.newN d (b.e5i d):=by simp [PBook.e5W]
theorem e9h (b:PBook) (hs:PSane b) (on:List Int):(b.e5W on).length<=on.length*3:=by
 have h1:=hs.ss;have h3:=hs.st.s3
 induction on with
 | nil=>simp [PBook.e5W]
 | cons d on ih =>
  have h2:=f0C b d (b.e5i d)
  have h4:=e7r b d
  simp only [PBook.e5W,List.map_cons,List.flatten_cons,List.length_append,List.length_cons] at ih ⊢
  omega
def PBook.lays (b:PBook) (x:D3):Option (List Int × List Day):=((b.lay1 ([],b.st.days) 0 x.d0).bind fun s=>b.lay1 s 1 x.d1).bind fun s=>b.lay1 s 2 x.d2
def e7d (l:List Int):List Int:=isrt l (l.length - 1)
theorem f2m (l:List Int):(e7d l).length=l.length:=e9l _ _
def PBook.held (b:PBook) (ds:List Day):Book:={ b.st with kd:=.shared,days:=ds }
def PBook.a4k (b:PBook) (x:D3):Bool:=match b.lays x with
 | some s=>((b.held s.2).safe (b.e5W (e7d s.1))).1
 | none=>false
def PBook.for (b:PBook) (x:D3):Prop:=∀ (i:Nat) (day:Int),x.l[i]?=some day->b.rehs.length<=i->day=9
section
variable {Γ:Env} [P04 Γ] [G04 Γ] [GCo Γ] [GPr Γ]
theorem f2x (k:SK) (l:List Day) (H:List Obj) (N:Nat) (hn:H.length=N) (hl:l.length<=1000) (hne:l≠[]) (hk:k≠.nil) :
 K Γ (.fn 361) [.sc (.sl k 3 (l.map Day.c))] H=some (.sc (.msl N 0 l.length 0 3),H++[.var (flD l)]):=by
 have hd:decide (k=.nil)=false:=decide_eq_false hk
 have ha {β:Type} (p:Nat) (f:C->Option Obj->Option β):=b6J 3 k (l.map Day.c) p f (by simpa using hne) (by simp only [List.length_map,room];omega)
 rw [K_fn P04.f361 _ _ rfl]
 simp only [go_sem,simprocAttr,e5o,hd,hn,a0E,ha,List.length_map]
 rfl
theorem f3y (b:PBook) (hs:PSane b) (x:D3) (s:List Int × List Day) {β:Type} (Q:Ex->St->Option β) :
 E Γ e5d (isS b x 3 s) Q=Q (.exit 2) ⟨[(2,.sc (.ptr 0 0)),(5,.sc (.ptr 2 0)),(6,vi b.e7T),(9,.sc (.own true 1 (nums s.1))),(41,.agg x.c),(42,vi 3),(43,vb false)],[.var b.o,.var x.c,xO b,.var (flD s.2)]⟩:=by
 have hL {β:Type} (S:St) (Q:Ex->St->Option β):E Γ e5d S Q=E Γ e4v S fun e s1=>match e with | .norm=>a0L (trim [2,5,6,9,41,42] S.h.length s1) fun s'=>E Γ e5d s' Q|e=>Q e s1:=a1J _ _ _ _ _
 have hlt:decide (((3:Nat):Int)<3)=false:=rfl
 rw [hL]
 simp only [isS]
 simp only [go_sem,simprocAttr,e4v,hlt]
 try rfl
theorem f3x (b:PBook) (hs:PSane b) (x:D3) (hx:b.for x) :
 match b.lays x with
 | some s=>LInv b 3 s/\∀ {β:Type} (Q:Ex->St->Option β),E Γ e5d ⟨[(2,.sc (.ptr 0 0)),(5,.sc (.ptr 2 0)),(6,vi b.e7T),(9,.sc (.own true 1 [])),(41,.agg x.c),(42,vi 0)],[.var b.o,.var x.c,xO b,.var (flD b.st.days)]⟩ Q=Q (.exit 2) ⟨[(2,.sc (.ptr 0 0)),(5,.sc (.ptr 2 0)),(6,vi b.e7T),(9,.sc (.own true 1 (nums s.1))),(41,.agg x.c),(42,vi 3),(43,vb false)],[.var b.o,.var x.c,xO b,.var (flD s.2)]⟩
 | none=>∃ h',∀ {β:Type} (Q:Ex->St->Option β),E Γ e5d ⟨[(2,.sc (.ptr 0 0)),(5,.sc (.ptr 2 0)),(6,vi b.e7T),(9,.sc (.own true 1 [])),(41,.agg x.c),(42,vi 0)],[.var b.o,.var x.c,xO b,.var (flD b.st.days)]⟩ Q=Q .ret ⟨[(4,vb false)],h'⟩:=by
 have I0:=LInv.start b hs
 have s0:=f0z (Γ:=Γ) b hs x 0 (by decide) x.d0 rfl (hx 0 _ rfl) _ I0
 unfold PBook.lays
 cases h0:b.lay1 ([],b.st.days) 0 x.d0 with
 | none =>
  rw [h0] at s0
  exact s0
 | some a =>
  rw [h0] at s0
  have I1:=e9p hs I0 h0
  have s1:=f0z (Γ:=Γ) b hs x 1 (by decide) x.d1 rfl (hx 1 _ rfl) _ I1
  simp only [Option.bind_some]
  cases h1:b.lay1 a 1 x.d1 with
  | none =>
   rw [h1] at s1
   obtain ⟨h',hh⟩:=s1
   exact ⟨h',fun Q=>(s0 Q).trans (hh Q)⟩
  | some c =>
   rw [h1] at s1
   have I2:=e9p hs I1 h1
   have s2:=f0z (Γ:=Γ) b hs x 2 (by decide) x.d2 rfl (hx 2 _ rfl) _ I2
   simp only [Option.bind_some]
   cases h2:b.lay1 c 2 x.d2 with
   | none =>
    rw [h2] at s2
    obtain ⟨h',hh⟩:=s2
    exact ⟨h',fun Q=>((s0 Q).trans (s1 Q)).trans (hh Q)⟩
   | some d =>
    rw [h2] at s2
    exact ⟨e9p hs I2 h2,fun Q=>(((s0 Q).trans (s1 Q)).trans (s2 Q)).trans (f3y b hs x d Q)⟩
theorem f4s (b:PBook) (hs:PSane b) (x:D3) (ds:List Day) (day:Int) (on:List Int) (i:Nat) (k:SK) (l:List Int) (hl:l.length<=3) (R:List Rest) (hR:R.length<=100) {β:Type} (Q:Ex->St->Option β) :
 E Γ e7u ⟨[(2,.sc (.ptr 0 0)),(5,.sc (.ptr 2 0)),(13,.sc (ownC 2 (R.map Rest.c))),(15,vi day),(109,.sc (.sl .shared 1 (nums on))),(110,vi on.length),(111,vi i),(117,.sc (.sl k 1 (nums l))),(118,vi l.length),(119,vi 0)],[.var b.o,.var x.c,xO b,.var (flD ds),.dead]⟩ Q =
 Q (.exit 6) ⟨[(2,.sc (.ptr 0 0)),(5,.sc (.ptr 2 0)),(13,.sc (ownC 2 ((R++b.newN day l).map Rest.c))),(15,vi day),(109,.sc (.sl .shared 1 (nums on))),(110,vi on.length),(111,vi i),(117,.sc (.sl k 1 (nums l))),(118,vi l.length),(119,vi l.length),(120,vb false)],[.var b.o,.var x.c,xO b,.var (flD ds),.dead]⟩:=by
 refine (a4Q (fun j=>⟨[(2,.sc (.ptr 0 0)),(5,.sc (.ptr 2 0)),(13,.sc (ownC 2 ((R++b.newN day (l.take j)).map Rest.c))),(15,vi day),(109,.sc (.sl .shared 1 (nums on))),(110,vi on.length),(111,vi i),(117,.sc (.sl k 1 (nums l))),(118,vi l.length),(119,vi j)],[.var b.o,.var x.c,xO b,.var (flD ds),.dead]⟩) l
  (.exit 6,⟨[(2,.sc (.ptr 0 0)),(5,.sc (.ptr 2 0)),(13,.sc (ownC 2 ((R++b.newN day l).map Rest.c))),(15,vi day),(109,.sc (.sl .shared 1 (nums on))),(110,vi on.length),(111,vi i),(117,.sc (.sl k 1 (nums l))),(118,vi l.length),(119,vi l.length),(120,vb false)],[.var b.o,.var x.c,xO b,.var (flD ds),.dead]⟩) Q ?_ ?_ ?_).trans ?_
 ·simp [PBook.newN]
 ·intro j s hj0
  have hj:=(List.getElem?_eq_some_iff.1 hj0).1
  have hlt:=decide_eq_true (show (j:Int)<l.length by omega)
  have hjw:IntKind.i64.wrap ((j:Int)+1)=j+1:=wrap_i64 (by omega) (by omega)
  have hn:(nums l)[j]?=some [ci s]:=by rw [e7n,hj0];rfl
  have hr6:=hs.st.r6
  have hM:=b5k (Γ:=Γ) b.st.kr b.st.rests ⟨day,s⟩ (by omega)
  have hnl:=f0C b day (l.take j)
  rw [List.length_take] at hnl
  have happ:=a2K 2 ((R++b.newN day (l.take j)).map Rest.c) .full [ci day,ci s] (by rw [List.length_map,List.length_append];simp only [room];omega)
  rw [show (R++b.newN day (l.take j)).map Rest.c++[[ci day,ci s]]=(R++(b.newN day (l.take j)++[(⟨day,s⟩:Rest)])).map Rest.c by simp [Rest.c]] at happ
  change K Γ (.fn 155) [.sc (.sl b.st.kr 2 (b.st.rests.map Rest.c)),.agg [ci day,ci s]] []=_ at hM
  rw [take_snoc hj0,f2a]
  cases hc:b.st.rests.any (·.same ⟨day,s⟩) with
  | true =>
   rw [hc] at hM
   simp only [if_true]
   (simp only [go_sem,simprocAttr,e4Q,hn,hlt,hjw,hM];repeat' ((first|refine brY ?_|refine brN ?_|refine brA ?_|refine brD ?_|refine brF ?_);(try simp only [go_sem,simprocAttr,e4Q,hn,hlt,hjw,hM])))
   try rfl
  | false =>
   rw [hc] at hM
   simp only [Bool.false_eq_true,if_false]
   (simp only [go_sem,simprocAttr,e4Q,hn,hlt,hjw,hM,happ];repeat' ((first|refine brY ?_|refine brN ?_|refine brA ?_|refine brD ?_|refine brF ?_);(try simp only [go_sem,simprocAttr,e4Q,hn,hlt,hjw,hM,happ])))
   try rfl
 ·have hlt:=decide_eq_false (show ¬ (l.length:Int)<l.length by omega)
  rw [List.take_length]
  simp only [go_sem,simprocAttr,e4Q,hlt]
  try rfl
 ·rfl
theorem f4r (b:PBook) (hs:PSane b) (x:D3) (ds:List Day) (on:List Int) (hon:on.length<=3) {β:Type} (Q:Ex->St->Option β) :
 E Γ e6X ⟨[(2,.sc (.ptr 0 0)),(5,.sc (.ptr 2 0)),(13,.sc (.sl .nil 2 [])),(109,.sc (.sl .shared 1 (nums on))),(110,vi on.length),(111,vi 0)],[.var b.o,.var x.c,xO b,.var (flD ds),.dead]⟩ Q =
 Q (.exit 4) ⟨[(2,.sc (.ptr 0 0)),(5,.sc (.ptr 2 0)),(13,.sc (ownC 2 ((b.e5W on).map Rest.c))),(109,.sc (.sl .shared 1 (nums on))),(110,vi on.length),(111,vi on.length),(112,vb false)],[.var b.o,.var x.c,xO b,.var (flD ds),.dead]⟩:=by
 have h3:=hs.ss
 have h4:=hs.st.s3
 refine (a4Q (fun j=>⟨[(2,.sc (.ptr 0 0)),(5,.sc (.ptr 2 0)),(13,.sc (ownC 2 ((b.e5W (on.take j)).map Rest.c))),(109,.sc (.sl .shared 1 (nums on))),(110,vi on.length),(111,vi j)],[.var b.o,.var x.c,xO b,.var (flD ds),.dead]⟩) on
  (.exit 4,⟨[(2,.sc (.ptr 0 0)),(5,.sc (.ptr 2 0)),(13,.sc (ownC 2 ((b.e5W on).map Rest.c))),(109,.sc (.sl .shared 1 (nums on))),(110,vi on.length),(111,vi on.length),(112,vb false)],[.var b.o,.var x.c,xO b,.var (flD ds),.dead]⟩) Q ?_ ?_ ?_).trans ?_
 ·rfl
 ·intro j d hj0
  have hj:=(List.getElem?_eq_some_iff.1 hj0).1
  have hlt:=decide_eq_true (show (j:Int)<on.length by omega)
  have hjw:IntKind.i64.wrap ((j:Int)+1)=j+1:=wrap_i64 (by omega) (by omega)
  have hn:(nums on)[j]?=some [ci d]:=by rw [e7n,hj0];rfl
  have hk:=e9n (Γ:=Γ) b hs d
  have hkl:=e7r b d
  have hrl:=e9h b hs (on.take j)
  rw [List.length_take] at hrl
  have h3 {β:Type} (Q:Ex->St->Option β):=f4s (Γ:=Γ) b hs x ds d on j (kU (b.e5i d)) (b.e5i d) (by omega) (b.e5W (on.take j)) (by omega) Q
  rw [take_snoc hj0,f0N]
  (simp only [go_sem,simprocAttr,e4M,hn,hlt,hjw,hk,h3,e4t];repeat' ((first|refine brY ?_|refine brN ?_|refine brA ?_|refine brD ?_|refine brF ?_);(try simp only [go_sem,simprocAttr,e4M,hn,hlt,hjw,hk,h3,e4t])))
  try rfl
 ·have hlt:=decide_eq_false (show ¬ (on.length:Int)<on.length by omega)
  rw [List.take_length]
  simp only [go_sem,simprocAttr,e4M,hlt]
  try rfl
 ·rfl
theorem f0i (b:PBook) [hb:b.Fits] (hs:PSane b) (x:D3) (hx:b.for x):K Γ (.fn 283) [.agg b.o,.agg x.c] []=some (vb (b.a4k x),[]):=by
 have hd1:=hs.st.d1;have hd5:=hs.st.d5
 have hne:b.st.days≠[]:=fun h=>by rw [h] at hd1;exact absurd hd1 (by decide)
 have hcl:=f2x (Γ:=Γ) b.st.kd b.st.days [.var b.o,.var x.c,.var b.st.c] 3 rfl (by omega) hne (fun h=>hne (hb.nk h))
 have h0 {β:Type} (Q:Ex->St->Option β):=f4q (Γ:=Γ) b hs x b.st.days Q
 have h1:=f3x (Γ:=Γ) b hs x hx
 simp only [PBook.a4k]
 cases hl:b.lays x with
 | none =>
  rw [hl] at h1
  obtain ⟨h',h1⟩:=h1
  rw [K_fn P04.f283 _ _ rfl]
  (simp only [go_sem,simprocAttr,e4S,hcl,h0,h1,List.length_map];repeat' ((first|refine brY ?_|refine brN ?_|refine brA ?_|refine brD ?_|refine brF ?_);(try simp only [go_sem,simprocAttr,e4S,hcl,h0,h1,List.length_map])))
  try rfl
 | some s =>
  rw [hl] at h1
  obtain ⟨hI,h1⟩:=h1
  simp only
  have hF:(b.held s.2).Fits:=⟨hb.st.s,by show s.2.length<=_;rw [hI.n];exact hb.st.d,hb.st.r,hb.st.g⟩
  have hon:=hI.o
  have hsl:=f2m s.1
  have hRl:=e9h b hs (e7d s.1)
  have hL2 {β:Type} (Q:Ex->St->Option β):=f4r (Γ:=Γ) b hs x s.2 (e7d s.1) (by omega) Q
  have hS:=c1N (Γ:=Γ) (b.held s.2) (kS (b.e5W (e7d s.1))) (b.e5W (e7d s.1)) (by omega)
  have hc:(b.held s.2).c=B10 b.st (.sl .shared 3 (s.2.map Day.c)):=rfl
  rw [hc] at hS
  have hU:a0r (ownC 2 ((b.e5W (e7d s.1)).map Rest.c))=.sl (kS (b.e5W (e7d s.1))) 2 ((b.e5W (e7d s.1)).map Rest.c):=by
   rw [a9I,d6p]
  have hfx {t:List (Nat × V)} (ht:get t 5=.sc (.ptr 2 0)) (x0 x1:Obj) (rest:List Obj):=f4n ht x0 x1 rest b.st s.2 b.st.days.length hI.n (by omega)
  match hs1:s.1 with
  | [] =>
   have e0:e7d []=[]:=rfl
   rw [hs1] at hL2 hS hU h1
   have hs0:=f3Q (Γ:=Γ) [.var b.o,.var x.c,xO b,.var (flD s.2)] 4 rfl (by simp [go_sem])
   have er:b.e5W (e7d [])=[]:=rfl
   rw [er] at hS ⊢
   change K Γ (.fn 105) [.agg (B10 b.st (.sl .shared 3 (s.2.map Day.c))),.sc (.sl .nil 2 [])] []=_ at hS
   have hL {β:Type} (Q:Ex->St->Option β):E Γ e6X ⟨[(2,.sc (.ptr 0 0)),(5,.sc (.ptr 2 0)),(13,.sc (.sl .nil 2 [])),(109,.sc (.sl .nil 1 [])),(110,vi 0),(111,vi 0)],[.var b.o,.var x.c,xO b,.var (flD s.2)]⟩ Q =
    Q (.exit 4) ⟨[(2,.sc (.ptr 0 0)),(5,.sc (.ptr 2 0)),(13,.sc (.sl .nil 2 [])),(109,.sc (.sl .nil 1 [])),(110,vi 0),(111,vi 0),(112,vb false)],[.var b.o,.var x.c,xO b,.var (flD s.2)]⟩:=by
    show E Γ (.loop _ e4M) _ Q=_
    rw [a1J]
    (simp only [go_sem,simprocAttr,e4M];repeat' ((first|refine brY ?_|refine brN ?_|refine brA ?_|refine brD ?_|refine brF ?_);(try simp only [go_sem,simprocAttr,e4M])))
   have hfz {t:List (Nat × V)} {h:List Obj} (hi:get t 9=.sc (.sl .nil 1 [])):a3G 9 ⟨t,h⟩=some ⟨t,h⟩:=c0R hi
   simp only [nums,List.map_nil] at h1
   rw [K_fn P04.f283 _ _ rfl]
   (simp only [go_sem,simprocAttr,e4S,hcl,h0,h1,hs0,hL,hfz,hfx,hS,List.length_map,List.map_nil];repeat' ((first|refine brY ?_|refine brN ?_|refine brA ?_|refine brD ?_|refine brF ?_);(try simp only [go_sem,simprocAttr,e4S,hcl,h0,h1,hs0,hL,hfz,hfx,hS,List.length_map,List.map_nil])))
   try rfl
  | d::l =>
   rw [hs1] at hL2 hS hU h1 hsl hon
   have hso:=f3R (Γ:=Γ) [.var b.o,.var x.c,xO b,.var (flD s.2),.var (fl (d::l))] 5 4 rfl (by decide) (by simp [go_sem]) (d::l) (l.length+1) rfl (by simp only [List.length_cons] at hon;omega) rfl
   have hsr:isrt (d::l) (l.length+1 - 1)=e7d (d::l):=rfl
   rw [hsr] at hso
   have hfz {t:List (Nat × V)} {h:List Obj} (hi:get t 9=.sc (.msl 4 0 (l.length+1) 0 1)) (hr:h[4]?=some (.var (fl (e7d (d::l))))):a3G 9 ⟨t,h⟩=some ⟨(9,.sc (.sl .shared 1 (nums (e7d (d::l)))))::t,h.set 4 .dead⟩ :=
    f3t (e7d (d::l)) hi (by rw [hsl];rfl) (by simp only [List.length_cons] at hon;omega) hr
   have hfl:([ci d]::nums l).flatten=fl (d::l):=f3q (d::l)
   have hnl:=e4t (e7d (d::l))
   have hnl0:=e4t l
   simp only [nums,List.map_cons] at h1
   simp only [nums] at hfl hnl0
   rw [K_fn P04.f283 _ _ rfl]
   (simp only [go_sem,simprocAttr,e4S,hcl,h0,h1,hfl,hnl0,hso,hfz,hnl,hL2,hU,hfx,hS,List.length_map];repeat' ((first|refine brY ?_|refine brN ?_|refine brA ?_|refine brD ?_|refine brF ?_);(try simp only [go_sem,simprocAttr,e4S,hcl,h0,h1,hfl,hnl0,hso,hfz,hnl,hL2,hU,hfx,hS,List.length_map])))
   try rfl
end
end Go.Pm.St
namespace Go.Pm.St
open Ac
def PBook.e7j (b:PBook) (l:List Int):D3:=if l.length=b.rehs.length then ⟨l.getD 0 9,l.getD 1 9,l.getD 2 9⟩ else e6u
def D3.put (x:D3) (i:Nat) (d:Int):D3:=match i with
 | 0=>{ x with d0:=d }
 | 1=>{ x with d1:=d }
 | 2=>{ x with d2:=d }
 | _=>x
theorem D3.f1C (x:D3) (i:Nat) (d:Int):x.c.set i (ci d)=(x.put i d).c:=by
 rcases i with _|_|_|i<;>rfl
theorem D3.f6m (x:D3) (i:Nat) (d:Int):(x.put i d).l=x.l.set i d:=by
 rcases i with _|_|_|i<;>rfl
theorem D3.f1j (x:D3) (i j:Nat) (d:Int) (hi:i<3):(x.put i d).l[j]?=if i=j then some d else x.l[j]?:=by
 rw [D3.f6m,List.getElem?_set]
 have:i<x.l.length:=hi
 simp [this]
theorem e8M (i:Nat) (day:Int) (h:e6u.l[i]?=some day):day=9:=by
 rcases i with _|_|_|i
 ·exact (Option.some.inj h).symm
 ·exact (Option.some.inj h).symm
 ·exact (Option.some.inj h).symm
 ·cases h
theorem f0s (b:PBook) (l:List Int):b.for (b.e7j l):=by
 intro i day hi hb
 unfold PBook.e7j at hi
 split at hi
 ·rename_i hl
  have h9:l.getD i 9=9:=by simp only [List.getD,List.getElem?_eq_none_iff.2 (show l.length<=i by omega),Option.getD_none]
  rcases i with _|_|_|i
  ·rw [← h9];exact (Option.some.inj hi).symm
  ·rw [← h9];exact (Option.some.inj hi).symm
  ·rw [← h9];exact (Option.some.inj hi).symm
  ·cases hi
 ·exact e8M i day hi
theorem f3s (b:PBook) (x:D3) (r:Nat) (d:Int) (hx:b.for x) (hr:r<b.rehs.length) (h3:r<3):b.for (x.put r d):=by
 intro i day hi hb
 rw [D3.f1j _ _ _ _ h3,if_neg (by omega)] at hi
 exact hx i day hi hb
theorem f1u (b:PBook):b.for e6u:=fun i day hi _=>e8M i day hi
def PBook.a5c (b:PBook) (r:Nat):Nat->List Int
 | 0=>[]
 | j+1=>if b.a4k (e6u.put r j) then b.a5c r j++[(j:Int)] else b.a5c r j
def PBook.alone (b:PBook) (r:Nat):List Int:=b.a5c r b.st.days.length
theorem e9S (b:PBook) (r:Nat):∀ j,(b.a5c r j).length<=j
 | 0=>Nat.le_refl 0
 | j+1=>by
  have:=e9S b r j
  simp only [PBook.a5c]
  split
  ·simp;omega
  ·omega
section
variable {Γ:Env} [P04 Γ] [G04 Γ] [GCo Γ] [GPr Γ]
theorem f1V (b:PBook) (hs:PSane b) (k:SK) (l:List Int) (hl:l.length<=9223372036854775807):K Γ (.fn 282) [.agg b.o,.sc (.sl k 1 (nums l))] []=some (.tup [.agg (b.e7j l).c,vb (decide (l.length=b.rehs.length))],[]):=by
 have h3:=hs.r3
 have hsl:a8k 3 1 (.sc (.ptr 2 0)) none none none=some (.msl 2 0 3 3 1):=rfl
 by_cases hn:l.length=b.rehs.length
 ·simp only [PBook.e7j,if_pos hn,decide_eq_true hn]
  have hr:(b.rehs.length:Int)=l.length:=by omega
  match l,hn with
  | [],hn =>
   have hr:(b.rehs.length:Int)=0:=by rw [← hn];rfl
   have hcp:a1H [ci 9,ci 9,ci 9] 0 ((nums ([]:List Int)).take 3).flatten=[ci 9,ci 9,ci 9]:=rfl
   rw [K_fn P04.f282 _ _ rfl]
   simp only [go_sem,simprocAttr,e4G,hr,hsl,hcp,e4t,List.length_map,List.length_cons,List.length_nil]
   try rfl
  | [x],hn =>
   have hr:(b.rehs.length:Int)=1:=by rw [← hn];rfl
   have hcp:a1H [ci 9,ci 9,ci 9] 0 ((nums [x]).take 3).flatten=[ci x,ci 9,ci 9]:=rfl
   rw [K_fn P04.f282 _ _ rfl]
   simp only [go_sem,simprocAttr,e4G,hr,hsl,hcp,e4t,List.length_map,List.length_cons,List.length_nil]
   try rfl
  | [x,y],hn =>
   have hr:(b.rehs.length:Int)=2:=by rw [← hn];rfl
   have hcp:a1H [ci 9,ci 9,ci 9] 0 ((nums [x,y]).take 3).flatten=[ci x,ci y,ci 9]:=rfl
   rw [K_fn P04.f282 _ _ rfl]
   simp only [go_sem,simprocAttr,e4G,hr,hsl,hcp,e4t,List.length_map,List.length_cons,List.length_nil]
   try rfl
  | [x,y,z],hn =>
   have hr:(b.rehs.length:Int)=3:=by rw [← hn];rfl
   have hcp:a1H [ci 9,ci 9,ci 9] 0 ((nums [x,y,z]).take 3).flatten=[ci x,ci y,ci z]:=rfl
   rw [K_fn P04.f282 _ _ rfl]
   simp only [go_sem,simprocAttr,e4G,hr,hsl,hcp,e4t,List.length_map,List.length_cons,List.length_nil]
   try rfl
  | _::_::_::_::_,hn=>exact absurd hn (by simp only [List.length_cons];omega)
 ·have d1:decide ((l.length:Int)=b.rehs.length)=false:=decide_eq_false (by omega)
  simp only [PBook.e7j,if_neg hn,decide_eq_false hn]
  rw [K_fn P04.f282 _ _ rfl]
  simp only [go_sem,simprocAttr,e4G,d1,e4t,List.length_map]
  try rfl
theorem f2N (b:PBook) [hb:b.Fits] (hs:PSane b) (r:Nat) (hr:r<b.rehs.length) {β:Type} (Q:Ex->St->Option β) :
 E Γ e7A ⟨[(1,vi r),(5,.sc (.sl .nil 1 [])),(6,.sc (.fn (.fn 283) [some 24] b.o [])),(15,vi b.st.days.length),(16,vi 0)],[.var b.o]⟩ Q =
 Q (.exit 0) ⟨[(1,vi r),(5,.sc (ownC 1 (nums (b.alone r)))),(6,.sc (.fn (.fn 283) [some 24] b.o [])),(15,vi b.st.days.length),(16,vi b.st.days.length),(17,vb false)],[.var b.o]⟩:=by
 have h3:=hs.r3
 have h5:=hs.st.d5
 refine (a4Q (fun j=>⟨[(1,vi r),(5,.sc (ownC 1 (nums (b.a5c r j)))),(6,.sc (.fn (.fn 283) [some 24] b.o [])),(15,vi b.st.days.length),(16,vi j)],[.var b.o]⟩) b.st.days
  (.exit 0,⟨[(1,vi r),(5,.sc (ownC 1 (nums (b.alone r)))),(6,.sc (.fn (.fn 283) [some 24] b.o [])),(15,vi b.st.days.length),(16,vi b.st.days.length),(17,vb false)],[.var b.o]⟩) Q ?_ ?_ ?_).trans ?_
 ·rfl
 ·intro j x hx
  have hj:=(List.getElem?_eq_some_iff.1 hx).1
  have hlt:=decide_eq_true (show (j:Int)<b.st.days.length by omega)
  have hjw:IntKind.i64.wrap ((j:Int)+1)=j+1:=wrap_i64 (by omega) (by omega)
  have hk:=e9S b r j
  have happ:=a2K 1 (nums (b.a5c r j)) .full [ci j] (by rw [e4t];simp only [room];omega)
  have hn:nums (b.a5c r j)++[[ci j]]=nums (b.a5c r j++[(j:Int)]):=by simp [nums]
  rw [hn] at happ
  have hP:=f0i (Γ:=Γ) b hs (e6u.put r j) (f3s b e6u r j (f1u b) hr (by omega))
  have hb3:decide (0<=(r:Int)/\(r:Int)<3)=true:=decide_eq_true (by omega)
  have hput:[ci 9,ci 9,ci 9].set r (ci j)=(e6u.put r j).c:=D3.f1C e6u r j
  simp only [PBook.a5c]
  cases hg:b.a4k (e6u.put r j) with
  | true =>
   have hown:C.own false 1 (nums (b.a5c r j++[(j:Int)]))=ownC 1 (nums (b.a5c r j++[(j:Int)])):=f0E _ _
   rw [hg] at hP
   (simp only [go_sem,simprocAttr,e4T,hlt,hjw,hb3,hput,hP,happ,Int.toNat_natCast,Nat.mul_one,Nat.zero_add];repeat' ((first|refine brY ?_|refine brN ?_|refine brA ?_|refine brD ?_|refine brF ?_);(try simp only [go_sem,simprocAttr,e4T,hlt,hjw,hb3,hput,hP,happ,Int.toNat_natCast,Nat.mul_one,Nat.zero_add])))
   try rw [hown]
   try rfl
  | false =>
   rw [hg] at hP
   (simp only [go_sem,simprocAttr,e4T,hlt,hjw,hb3,hput,hP,Int.toNat_natCast,Nat.mul_one,Nat.zero_add];repeat' ((first|refine brY ?_|refine brN ?_|refine brA ?_|refine brD ?_|refine brF ?_);(try simp only [go_sem,simprocAttr,e4T,hlt,hjw,hb3,hput,hP,Int.toNat_natCast,Nat.mul_one,Nat.zero_add])))
   try rfl
 ·have hlt:=decide_eq_false (show ¬ (b.st.days.length:Int)<b.st.days.length by omega)
  simp only [go_sem,simprocAttr,e4T,hlt]
  try rfl
 ·rfl
theorem f0G (b:PBook) [hb:b.Fits] (hs:PSane b) (r:Nat) (hr:r<b.rehs.length):K Γ (.fn 277) [.agg b.o,vi r] []=some (.sc (.sl (kU (b.alone r)) 1 (nums (b.alone r))),[]):=by
 have h0 {β:Type} (Q:Ex->St->Option β):=f2N (Γ:=Γ) b hs r hr Q
 have hS:=e8t 1 (nums (b.alone r)) (b.alone r).length (e4t _)
 have hU:=e9d (b.alone r)
 have hkS:kS (nums (b.alone r))=kS (b.alone r):=f3z _
 rw [hU,e9N] at hS
 rw [K_fn P04.f277 _ _ rfl]
 simp only [go_sem,simprocAttr,e5M,h0,hS,hU,e4t,List.length_map]
end
end Go.Pm.St
namespace Go.Pm.St
open Ac
def e7U {α:Type} (f:Int->List α) (taken:List Int) (fr:Int):Nat->List α
 | 0=>[]
 | j+1=>e7U f taken fr j++if taken.contains (fr+j) then [] else f (fr+j)
def Reh.many (y:Reh):Nat:=(y.til - y.fr+1).toNat
def PBook.e6w (b:PBook):Nat->Nat->D3->List D3
 | 0,_,x=>if b.a4k x then [x] else []
 | n+1,at_,x=>match b.rehs[at_]? with
  | some y=>e7U (fun d=>b.e6w n (at_+1) (x.put at_ d)) (x.l.take at_) y.fr y.many++b.e6w n (at_+1) (x.put at_ 9)
  | none=>[]
def PBook.plans (b:PBook):List D3:=b.e6w b.rehs.length 0 e6u
def PBook.better (b:PBook) (x y:D3):Bool:=decide (y.holds<x.holds)||(decide (x.holds=y.holds)&&decide (b.keeps x<b.keeps y))
theorem D3.f1k (x:D3) (i:Nat) (a d:Int):(x.put i a).put i d=x.put i d:=by
 rcases i with _|_|_|i<;>rfl
theorem D3.f2R (x:D3) (i:Nat) (a:Int):(x.put i a).l.take i=x.l.take i:=by
 rcases i with _|_|_|i
 ·rfl
 ·rfl
 ·rfl
 ·rfl
theorem D3.a3Y (x:D3) (i:Nat) (a:Int) (h:x.l[i]?=some a):x.put i a=x:=by
 rcases i with _|_|_|i
 ·cases h;rfl
 ·cases h;rfl
 ·cases h;rfl
 ·rfl
section
variable {Γ:Env} [P04 Γ] [G04 Γ] [GCo Γ] [GPr Γ]
theorem f2G (H:List Obj) (N r:Nat) (hn:H.length=N) (hu:H.all (Obj.under N)=true) (hr:r<N) (D:List Int) (n cap:Nat) (hnD:n<=D.length) (hl:n<=1000) (hH:H[r]?=some (.var (fl D))) (v:Int) :
 K Γ (.fn 83) [.sc (.msl r 0 n cap 1),vi v] H=some (vi (idxOf v (D.take n)),H):=by
 have hT:H.take N=H:=List.take_of_length_le (by simp [hn])
 have htl:(D.take n).length=n:=by rw [List.length_take];omega
 have hL {β:Type} (Q:Ex->St->Option β):E Γ a8d ⟨[(0,.sc (.msl r 0 n cap 1)),(1,vi v),(7,vi n),(8,vi 0)],H⟩ Q =
  match a0z (fun _ x=>decide (v=x)) 0 (D.take n) with
  | some q=>Q .ret ⟨[(4,vi q.1)],H⟩
  | none=>Q (.exit 0) ⟨[(0,.sc (.msl r 0 n cap 1)),(1,vi v),(7,vi n),(8,vi n),(9,vb false)],H⟩:=by
  refine (a4L (fun i=>⟨[(0,.sc (.msl r 0 n cap 1)),(1,vi v),(7,vi n),(8,vi i)],H⟩) (D.take n) (fun _ x=>decide (v=x))
   (fun i x=>(.ret,⟨[(4,vi i)],H⟩)) (.exit 0,⟨[(0,.sc (.msl r 0 n cap 1)),(1,vi v),(7,vi n),(8,vi n),(9,vb false)],H⟩) Q ?_ ?_ ?_).trans ?_
  ·intro i x hx hf
   have hi:=(List.getElem?_eq_some_iff.1 hx).1
   rw [htl] at hi
   have hlt:=decide_eq_true (show (i:Int)<n by omega)
   have hiw:IntKind.i64.wrap ((i:Int)+1)=i+1:=wrap_i64 (by omega) (by omega)
   have hb:decide (0<=(i:Int)/\(i:Int)<n)=true:=decide_eq_true (by omega)
   have hg:(fl D)[i]?=some (ci x):=e9x _ _ _ (by rw [List.getElem?_take] at hx;simpa [hi] using hx)
   simp only [go_sem,simprocAttr,a2R,hlt,hiw,hb,hH,hg,hf,hn,a0E,hr,hu,hT,Int.toNat_natCast,Nat.mul_one,Nat.zero_add]
   try rfl
  ·intro i x hx hf
   have hi:=(List.getElem?_eq_some_iff.1 hx).1
   rw [htl] at hi
   have hlt:=decide_eq_true (show (i:Int)<n by omega)
   have hb:decide (0<=(i:Int)/\(i:Int)<n)=true:=decide_eq_true (by omega)
   have hg:(fl D)[i]?=some (ci x):=e9x _ _ _ (by rw [List.getElem?_take] at hx;simpa [hi] using hx)
   simp only [go_sem,simprocAttr,a2R,hlt,hb,hH,hg,hf,hn,a0E,hr,hu,hT,Int.toNat_natCast,Nat.mul_one,Nat.zero_add]
   try rfl
  ·have hlt:=decide_eq_false (show ¬ (n:Int)<n by omega)
   rw [htl]
   simp only [go_sem,simprocAttr,a2R,hlt]
   try rfl
  ·cases a0z (fun _ x=>decide (v=x)) 0 (D.take n)<;>rfl
 rw [K_fn P04.f83 _ _ rfl]
 cases hf:a0z (fun _ x=>decide (v=x)) 0 (D.take n) with
 | none =>
  simp only [hf] at hL
  simp only [go_sem,simprocAttr,a3r,hL,idxOf,hf,hn,a0E,hu,hT]
  try rfl
 | some q =>
  simp only [hf] at hL
  simp only [go_sem,simprocAttr,a3r,hL,idxOf,hf,hn,a0E,hu,hT]
  try rfl
theorem f0S (H:List Obj) (N r:Nat) (hn:H.length=N) (hu:H.all (Obj.under N)=true) (hr:r<N) (D:List Int) (n cap:Nat) (hnD:n<=D.length) (hl:n<=1000) (hH:H[r]?=some (.var (fl D))) (v:Int) :
 K Γ (.fn 362) [.sc (.msl r 0 n cap 1),vi v] H=some (vb ((D.take n).contains v),H):=by
 have hT:H.take N=H:=List.take_of_length_le (by simp [hn])
 have h:=f2G (Γ:=Γ) H N r hn hu hr D n cap hnD hl hH v
 rw [K_fn P04.f362 _ _ rfl]
 simp only [go_sem,simprocAttr,e5t,h,b4v,hn,a0E,hu,hT]
 try rfl
theorem f2g (b:PBook) (hs:PSane b) (x y:D3):K Γ (.fn 310) [.agg (P27 x b.o),.agg (P27 y b.o)] []=some (vb (b.better x y),[]):=by
 have h1:=f1e (Γ:=Γ) b x
 have h2:=f1e (Γ:=Γ) b y
 have k1:=e9O (Γ:=Γ) b hs x
 have k2:=e9O (Γ:=Γ) b hs y
 simp only [PBook.better]
 cases c1:decide (y.holds<x.holds) with
 | true=>rw [K_fn P04.f310 _ _ rfl];simp only [go_sem,simprocAttr,e5f,h1,h2,c1];try rfl
 | false =>
  cases c2:decide (x.holds=y.holds) with
  | false=>rw [K_fn P04.f310 _ _ rfl];simp only [go_sem,simprocAttr,e5f,h1,h2,c1,c2];try rfl
  | true=>rw [K_fn P04.f310 _ _ rfl];simp only [go_sem,simprocAttr,e5f,h1,h2,k1,k2,c1,c2];try rfl
structure YieldsP (Γ:Env) (b:PBook) (G:List D3->List Obj) (N l:Nat):Prop where
 yl:l<N
 len:∀ ts,(G ts).length=N
 und:∀ ts,(G ts).all (Obj.under N)=true
 yield:∀ ts (x:D3) (fr:List Obj),fr.all (Obj.under (N+fr.length))=true->K Γ (.yield l) [.agg (P27 x b.o)] (G ts++fr)=some (vb true,G (ts++[x])++fr)
theorem YieldsP.frame {b:PBook} {G:List D3->List Obj} {N l:Nat} (h:YieldsP Γ b G N l) (f:List Obj) (hf:f.all (Obj.under (N+f.length))=true):YieldsP Γ b (fun ts=>G ts++f) (N+f.length) l where
 yl:=by have:=h.yl;omega
 len:=fun ts=>by simp [h.len ts]
 und:=fun ts=>by rw [List.all_append,a0Q _ N _ (h.und ts),hf];rfl
 yield:=fun ts x fr hfr=>by
  have:=h.yield ts x (f++fr) (by
   rw [List.all_append,List.length_append, ← Nat.add_assoc,hfr,a0Q _ (N+f.length) _ hf];rfl)
  simpa only [List.append_assoc] using this
abbrev layF (b:PBook) (p q:Nat):C:=.fn (.fn 320) [] [] [.eptr b.o 0,.ptr p 0,.ptr q 0]
end
end Go.Pm.St
namespace Go.Pm.St
open Ac
def Z27:List C:=[ci 0,ci 0,ci 0]++Z24
@[go_sem] theorem f6C (x:D3) (b:PBook) (m:C) (z0 z1 z2 z3 z4 z5 z6 z7 z8 z9 z10 z11 z12 z13 z14 z15 z16 z17 z18 z19 z20 z21 z22 z23 z24 z25 z26:C):a1H (a1H [z0,z1,z2,z3,z4,z5,z6,z7,z8,z9,z10,z11,z12,z13,z14,z15,z16,z17,z18,z19,z20,z21,z22,z23,z24,z25,z26] 0 x.c) 3 (P24 b m)=P27 x (P24 b m):=by
 have h:=e8L (P24 b m) x.c [z3,z4,z5,z6,z7,z8,z9,z10,z11,z12,z13,z14,z15,z16,z17,z18,z19,z20,z21,z22,z23,z24,z25,z26] (by rw [e8Y];exact Nat.le_refl 24)
 have h3:x.c.length=3:=rfl
 rw [h3,e8Y] at h
 have e:a1H [z0,z1,z2,z3,z4,z5,z6,z7,z8,z9,z10,z11,z12,z13,z14,z15,z16,z17,z18,z19,z20,z21,z22,z23,z24,z25,z26] 0 x.c=x.c++[z3,z4,z5,z6,z7,z8,z9,z10,z11,z12,z13,z14,z15,z16,z17,z18,z19,z20,z21,z22,z23,z24,z25,z26]:=rfl
 rw [e,h]
 simp only [P27,List.drop_succ_cons,List.drop_zero,List.append_nil]
@[go_sem] theorem f6W (x:D3) (z0 z1 z2 z3 z4 z5 z6 z7 z8 z9 z10 z11 z12 z13 z14 z15 z16 z17 z18 z19 z20 z21 z22 z23 z24 z25 z26:C):(a1H [z0,z1,z2,z3,z4,z5,z6,z7,z8,z9,z10,z11,z12,z13,z14,z15,z16,z17,z18,z19,z20,z21,z22,z23,z24,z25,z26] 0 x.c).length=27:=nrfl rfl
section
variable {Γ:Env} [P04 Γ] [G04 Γ] [GCo Γ] [GPr Γ]
theorem f4Q (b:PBook) [hb:b.Fits] (hs:PSane b) (x:D3) (G:List D3->List Obj) (N l p q:Nat) (hY:YieldsP Γ b G N l) (hp:∀ ts,(G ts)[p]?=some (.var [.fn (.yield l) [] [] []])) (ts:List D3) (hx:b.for x) :
 K Γ (.fn 320) [.agg x.c,vi b.rehs.length,.sc (.eptr b.o 0),.sc (.ptr p 0),.sc (.ptr q 0)] (G ts)=some (vb true,G (ts++b.e6w 0 b.rehs.length x)):=by
 have hlen:=hY.len ts
 have hund:=hY.und ts
 have hpN:p<N:=by have:=(List.getElem?_eq_some_iff.1 (hp ts)).1;rw [hY.len] at this;exact this
 have hp0:=hp ts
 have hu1:=a0Q _ N 1 hund
 have hT:=List.take_of_length_le (show (G ts).length<=N by omega)
 have hP:=f0i (Γ:=Γ) b hs x hx
 simp only [PBook.e6w]
 cases hc:b.a4k x with
 | false =>
  rw [hc] at hP
  simp only [Bool.false_eq_true,if_false,List.append_nil]
  rw [K_fn P04.f320 _ _ rfl]
  simp only [go_sem,simprocAttr,e4K,hlen,a0E,hund,hu1,hT,hpN,hP,List.length_map]
  try rfl
 | true =>
  rw [hc] at hP
  have hy:=hY.yield ts x [.var x.c] (by simp [go_sem])
  have hlen2:=hY.len (ts++[x])
  have hund2:=hY.und (ts++[x])
  have hT2:=List.take_of_length_le (show (G (ts++[x])).length<=N by omega)
  simp only [if_true]
  rw [K_fn P04.f320 _ _ rfl]
  simp only [go_sem,simprocAttr,e4K,hlen,a0E,hlen2,hund,hund2,hu1,hT,hT2,hpN,hp0,hP,hy,List.length_map]
  try rfl
theorem e9a {h:List Obj} {i:Nat} {o:Obj} (e:h[i]?=some o) {n:Nat} (hn:h.length=n):i<n:=by
 have:=(List.getElem?_eq_some_iff.1 e).1;omega
theorem f4R (b:PBook) [hb:b.Fits] (hs:PSane b) (n at_:Nat) (x:D3) (G:List D3->List Obj) (N l p q:Nat) (hY:YieldsP Γ b G N l) (hp:∀ ts,(G ts)[p]?=some (.var [.fn (.yield l) [] [] []])) (hq:∀ ts,(G ts)[q]?=some (.var [layF b p q]))
 (hn:at_+(n+1)=b.rehs.length) (y:Reh) (hy:b.rehs[at_]?=some y) (hx:∀ (i:Nat) day,x.l[i]?=some day->at_<=i->day=9)
 (ih:∀ (d:Int) (G':List D3->List Obj) (N':Nat),YieldsP Γ b G' N' l->(∀ ts,(G' ts)[p]?=some (.var [.fn (.yield l) [] [] []]))->(∀ ts,(G' ts)[q]?=some (.var [layF b p q]))->∀ ts,
  K Γ (.fn 320) [.agg (x.put at_ d).c,vi ((at_+1:Nat):Int),.sc (.eptr b.o 0),.sc (.ptr p 0),.sc (.ptr q 0)] (G' ts)=some (vb true,G' (ts++b.e6w n (at_+1) (x.put at_ d)))) (ts:List D3)
 {β:Type} (Q:Ex->St->Option β) (R:Option β)
 (hQ:∀ d',Q (.exit 0) ⟨[(1,vi at_),(4,.sc (.ptr q 0)),(5,.sc (.ptr N 0)),(8,.sc (.ptr (N+1) 0)),(9,vi (y.til+1)),(38,vb false)],G (ts++e7U (fun d=>b.e6w n (at_+1) (x.put at_ d)) (x.l.take at_) y.fr y.many)++[.var (x.put at_ d').c,.var y.c]⟩=R) :
 E Γ e7k ⟨[(1,vi at_),(4,.sc (.ptr q 0)),(5,.sc (.ptr N 0)),(8,.sc (.ptr (N+1) 0)),(9,vi y.fr)],G ts++[.var x.c,.var y.c]⟩ Q=R:=by
 have hr3:=hs.r3
 have hpN:p<N:=e9a (hp ts) (hY.len ts)
 have hqN:q<N:=e9a (hq ts) (hY.len ts)
 obtain ⟨hy1,hy2,hy3, -⟩:=hs.rh y (List.mem_of_getElem? hy)
 have hd5:=hs.st.d5
 have hm:(y.many:Int)=y.til - y.fr+1:=by simp only [Reh.many];omega
 have hx9:x.put at_ 9=x:=by
  have h3:at_<x.l.length:=by show at_<3;omega
  refine D3.a3Y x at_ 9 ?_
  rw [List.getElem?_eq_getElem h3,hx at_ _ (List.getElem?_eq_getElem h3) (Nat.le_refl _)]
 refine a4q y.many (fun j (d':Int)=>⟨[(1,vi at_),(4,.sc (.ptr q 0)),(5,.sc (.ptr N 0)),(8,.sc (.ptr (N+1) 0)),(9,vi (y.fr+j))],G (ts++e7U (fun d=>b.e6w n (at_+1) (x.put at_ d)) (x.l.take at_) y.fr j)++[.var (x.put at_ d').c,.var y.c]⟩) (fun _ _=>True)
  (fun d'=>(.exit 0,⟨[(1,vi at_),(4,.sc (.ptr q 0)),(5,.sc (.ptr N 0)),(8,.sc (.ptr (N+1) 0)),(9,vi (y.til+1)),(38,vb false)],G (ts++e7U (fun d=>b.e6w n (at_+1) (x.put at_ d)) (x.l.take at_) y.fr y.many)++[.var (x.put at_ d').c,.var y.c]⟩)) 9 (by simp [e7U,hx9]) trivial ?_ ?_ (fun d' _=>hQ d')
 ·intro j d' hj _
  have hle:=decide_eq_true (show y.fr+(j:Int)<=y.til by omega)
  have hjw:IntKind.i64.wrap (y.fr+(j:Int)+1)=y.fr+((j+1:Nat):Int):=by rw [wrap_i64 (by omega) (by omega)];omega
  have haw:IntKind.i64.wrap ((at_:Int)+1)=((at_+1:Nat):Int):=by rw [wrap_i64 (by omega) (by omega)];omega
  have hb3:decide (0<=(at_:Int)/\(at_:Int)<3)=true:=decide_eq_true (by omega)
  have hsl:a8k 3 1 (.sc (.ptr N 0)) none (some (vi at_)) none=some (.msl N 0 at_ 3 1):=by
   have:at_=0\/at_=1\/at_=2:=by omega
   rcases this with rfl|rfl|rfl<;>rfl
  generalize hT:ts++e7U (fun d=>b.e6w n (at_+1) (x.put at_ d)) (x.l.take at_) y.fr j=T
  have hlen:=hY.len T
  have hund:=hY.und T
  have hu2:=a0Q _ N 2 hund
  have hq0:=hq T
  have hC:=f0S (Γ:=Γ) (G T++[.var (x.put at_ d').c,.var y.c]) (N+2) N (by simp [hlen]) (by rw [List.all_append,hu2];simp [go_sem]) (by omega) (x.put at_ d').l at_ 3 (by show at_<=3;omega) (by omega) (by rw [b5P _ _ _ hlen];rfl) (y.fr+j)
  rw [D3.f2R] at hC
  have hput:(x.put at_ d').c.set at_ (ci (y.fr+j))=(x.put at_ (y.fr+j)).c:=by rw [D3.f1C,D3.f1k]
  have hF:=hY.frame [.var (x.put at_ (y.fr+j)).c,.var y.c] (by simp [go_sem])
  have hi:=ih (y.fr+j) _ _ hF (fun ts=>by rw [b2M _ _ _ (by rw [hY.len];exact hpN),hp]) (fun ts=>by rw [b2M _ _ _ (by rw [hY.len];exact hqN),hq]) T
  simp only [e7U, ← List.append_assoc,hT]
  cases hc:(x.l.take at_).contains (y.fr+(j:Int)) with
  | true =>
   rw [hc] at hC
   refine ⟨d',trivial,?_⟩
   simp only [if_true,List.append_nil,hT]
   (simp only [go_sem,simprocAttr,e4L,hlen,a0E,hle,hjw,hund,hu2,hsl,hC,hqN];repeat' ((first|refine brY ?_|refine brN ?_|refine brA ?_|refine brD ?_|refine brF ?_);(try simp only [go_sem,simprocAttr,e4L,hlen,a0E,hle,hjw,hund,hu2,hsl,hC,hqN])))
   try rfl
  | false =>
   rw [hc] at hC
   refine ⟨y.fr+j,trivial,?_⟩
   simp only [Bool.false_eq_true,if_false]
   generalize T++b.e6w n (at_+1) (x.put at_ (y.fr+j))=T2 at *
   have hlen2:=hY.len T2
   have hund2:=hY.und T2
   have hu22:=a0Q _ N 2 hund2
   (simp only [go_sem,simprocAttr,e4L,hlen,a0E,hlen2,hle,hjw,haw,hb3,hund,hund2,hu2,hu22,hsl,hC,hqN,hq0,hput,hi,Int.toNat_natCast,Nat.mul_one,Nat.zero_add];repeat' ((first|refine brY ?_|refine brN ?_|refine brA ?_|refine brD ?_|refine brF ?_);(try simp only [go_sem,simprocAttr,e4L,hlen,a0E,hlen2,hle,hjw,haw,hb3,hund,hund2,hu2,hu22,hsl,hC,hqN,hq0,hput,hi,Int.toNat_natCast,Nat.mul_one,Nat.zero_add])))
   try rfl
 ·intro d' _
  have hle:=decide_eq_false (show ¬ y.fr+(y.many:Int)<=y.til by omega)
  have hme:y.fr+(y.many:Int)=y.til+1:=by omega
  generalize ts++e7U (fun d=>b.e6w n (at_+1) (x.put at_ d)) (x.l.take at_) y.fr y.many=T
  have hlen:=hY.len T
  have hund:=hY.und T
  rw [← hme]
  simp only [go_sem,simprocAttr,e4L,hlen,a0E,hle,hund]
  try rfl
theorem f3h (b:PBook) [hb:b.Fits] (hs:PSane b) (l p q:Nat):∀ (n at_:Nat) (x:D3) (G:List D3->List Obj) (N:Nat) (hY:YieldsP Γ b G N l) (hp:∀ ts,(G ts)[p]?=some (.var [.fn (.yield l) [] [] []])) (hq:∀ ts,(G ts)[q]?=some (.var [layF b p q]))
 (hn:at_+n=b.rehs.length) (hx:∀ (i:Nat) day,x.l[i]?=some day->at_<=i->day=9) (ts:List D3),
 K Γ (.fn 320) [.agg x.c,vi at_,.sc (.eptr b.o 0),.sc (.ptr p 0),.sc (.ptr q 0)] (G ts)=some (vb true,G (ts++b.e6w n at_ x))
 | 0,at_,x,G,N,hY,hp,hq,hn,hx,ts=>by
  obtain rfl:at_=b.rehs.length:=hn
  exact f4Q b hs x G N l p q hY hp ts hx
 | n+1,at_,x,G,N,hY,hp,hq,hn,hx,ts=>by
  have hr3:=hs.r3
  have hpN:p<N:=e9a (hp ts) (hY.len ts)
  have hqN:q<N:=e9a (hq ts) (hY.len ts)
  have hlen:=hY.len ts
  have hund:=hY.und ts
  have hu1:=a0Q _ N 1 hund
  have hu2:=a0Q _ N 2 hund
  obtain ⟨y,hy⟩:∃ y,b.rehs[at_]?=some y:=⟨_,List.getElem?_eq_getElem (by omega)⟩
  have hput3:∀ d,∀ (i:Nat) day,(x.put at_ d).l[i]?=some day->at_+1<=i->day=9:=fun d i day hi hle=>by
   rw [D3.f1j _ _ _ _ (by omega),if_neg (by omega)] at hi
   exact hx i day hi (by omega)
  have ih:∀ (d:Int) (G':List D3->List Obj) (N':Nat),YieldsP Γ b G' N' l->(∀ ts,(G' ts)[p]?=some (.var [.fn (.yield l) [] [] []]))->(∀ ts,(G' ts)[q]?=some (.var [layF b p q]))->∀ ts,
   K Γ (.fn 320) [.agg (x.put at_ d).c,vi ((at_+1:Nat):Int),.sc (.eptr b.o 0),.sc (.ptr p 0),.sc (.ptr q 0)] (G' ts)=some (vb true,G' (ts++b.e6w n (at_+1) (x.put at_ d))) :=
   fun d G' N' hY' hp' hq' ts=>f3h b hs l p q n (at_+1) (x.put at_ d) G' N' hY' hp' hq' (by omega) (hput3 d) ts
  have hne:decide ((at_:Int)=b.rehs.length)=false:=decide_eq_false (by omega)
  have haw:IntKind.i64.wrap ((at_:Int)+1)=((at_+1:Nat):Int):=by rw [wrap_i64 (by omega) (by omega)];omega
  have hb3:decide (0<=(at_:Int)/\(at_:Int)<3)=true:=decide_eq_true (by omega)
  simp only [PBook.e6w,hy]
  rw [K_fn P04.f320 _ _ rfl]
  (simp only [go_sem,simprocAttr,e4K,hlen,a0E,hund,hu1,hne,hy,List.length_map];repeat' ((first|refine brY ?_|refine brN ?_|refine brA ?_|refine brD ?_|refine brF ?_);(try simp only [go_sem,simprocAttr,e4K,hlen,a0E,hund,hu1,hne,hy,List.length_map])))
  refine f4R b hs n at_ x G N l p q hY hp hq hn y hy hx ih ts _ _ (fun d'=>?_)
  rw [← List.append_assoc]
  generalize ts++e7U (fun d=>b.e6w n (at_+1) (x.put at_ d)) (x.l.take at_) y.fr y.many=T
  have hlenT:=hY.len T
  have hundT:=hY.und T
  have huT2:=a0Q _ N 2 hundT
  have huT1:=a0Q _ N 1 hundT
  have hq0:=hq T
  have hput:(x.put at_ d').c.set at_ (ci 9)=(x.put at_ 9).c:=by rw [D3.f1C,D3.f1k]
  have hF:=hY.frame [.var (x.put at_ 9).c,.var y.c] (by simp [go_sem])
  have hi:=ih 9 _ _ hF (fun ts=>by rw [b2M _ _ _ (by rw [hY.len];exact hpN),hp]) (fun ts=>by rw [b2M _ _ _ (by rw [hY.len];exact hqN),hq]) T
  generalize T++b.e6w n (at_+1) (x.put at_ 9)=T2 at *
  have hlen2:=hY.len T2
  have hund2:=hY.und T2
  have hu22:=a0Q _ N 2 hund2
  have hT2:=List.take_of_length_le (show (G T2).length<=N by omega)
  (simp only [go_sem,simprocAttr,hlen,a0E,hlenT,hlen2,hundT,hund2,huT2,hu22,hqN,hq0,haw,hb3,hput,hi,hT2,Int.toNat_natCast,Nat.mul_one,Nat.zero_add];repeat' ((first|refine brY ?_|refine brN ?_|refine brA ?_|refine brD ?_|refine brF ?_);(try simp only [go_sem,simprocAttr,hlen,a0E,hlenT,hlen2,hundT,hund2,huT2,hu22,hqN,hq0,haw,hb3,hput,hi,hT2,Int.toNat_natCast,Nat.mul_one,Nat.zero_add])))
  try rfl
end
end Go.Pm.St
namespace Go.Pm.St
open Ac
theorem f2l {α:Type} (l:List α) (p q r:Nat) (x v w o:α) (hpq:p≠q) (hpr:p≠r) (h:l[p]?=some o):(((l.set p x).set q v).set r w).set p o=(l.set q v).set r w:=by
 have e:(l.set p x).set q v=(l.set q v).set p x:=List.set_comm _ _ hpq
 rw [e]
 exact b9A (l.set q v) p r x w o hpr (by rw [List.getElem?_set_ne (Ne.symm hpq),h])
theorem f2k {α:Type} (l:List α) (p:Nat) (x o:α) (h:l[p]?=some o):(l.set p x).set p o=l:=by
 rw [List.set_set,b1j _ _ _ h]
def PBook.pick (b:PBook) (o:Option D3) (x:D3):Option D3:=match o with
 | none=>some x
 | some y=>if b.better x y then some x else some y
def PBook.e7x (b:PBook) (l:List D3):Option D3:=l.foldl b.pick none
theorem f0R (b:PBook) (l:List D3) (x:D3):b.e7x (l++[x])=b.pick (b.e7x l) x:=by simp [PBook.e7x]
def e7h (b:PBook) (o:Option D3):List C:=match o with
 | none=>Z27
 | some x=>P27 x b.o
section
variable (b:PBook) (o:Option D3) (x y:D3)
@[go_sem] theorem e9t:(e7h b o).length=27:=by cases o<;>rfl
@[go_sem] theorem f4M:a1H (e7h b o) 0 (P27 x b.o)=P27 x b.o:=by
 rw [e7D _ _ (by rw [e9t];exact Nat.le_refl 27),e7R,List.drop_of_length_le (by rw [e9t];exact Nat.le_refl 27),List.append_nil]
@[go_sem] theorem f4e (n:Nat):C.a0G n (e7h b o)=true:=by cases o<;>simp [e7h,Z27,Z24,go_sem]
@[go_sem] theorem f2t (m:C) (z0 z1 z2 z3 z4 z5 z6 z7 z8 z9 z10 z11 z12 z13 z14 z15 z16 z17 z18 z19 z20 z21 z22 z23 z24 z25 z26:C):a1H [z0,z1,z2,z3,z4,z5,z6,z7,z8,z9,z10,z11,z12,z13,z14,z15,z16,z17,z18,z19,z20,z21,z22,z23,z24,z25,z26] 0 (P27 x (P24 b m))=P27 x (P24 b m):=by
 rw [e7D _ _ (by rw [e7R];exact Nat.le_refl 27),e7R]
 simp only [List.drop_succ_cons,List.drop_zero,List.append_nil]
@[go_sem] theorem f7t:Z27.length=27:=nrfl rfl
@[go_sem] theorem f7u (m:C):a1H Z27 0 (P27 x (P24 b m))=P27 x (P24 b m):=f2t b x m _ _ _ _ _ _ _ _ _ _ _ _ _ _ _ _ _ _ _ _ _ _ _ _ _ _ _
@[go_sem] theorem f6X (m m':C):a1H (P27 y (P24 b m')) 0 (P27 x (P24 b m))=P27 x (P24 b m):=by
 rw [e7D _ _ (by rw [e7R,e7R];exact Nat.le_refl 27),e7R,List.drop_of_length_le (by rw [e7R];exact Nat.le_refl 27),List.append_nil]
@[go_sem] theorem f6E (m:C):(P27 x (P24 b m))[0]?=some (ci x.d0):=nrfl rfl
end
section
variable {Γ:Env} [P04 Γ] [G04 Γ] [GCo Γ] [GPr Γ]
theorem e7E {β:Type} (s:St) (Q:Ex->St->Option β):E Γ e6y s Q=E Γ ((.region 1 [
 I 0 9 (.alloc 0 [.int .i64 0,.int .i64 0,.int .i64 0,.int .i64 0,.int .i64 0,.int .i64 0,.int .i64 0,.int .i64 0,.int .i64 0,.int .i64 0,.int .i64 0,.sl .nil 2 [],.int .i64 0,.sl .nil 3 [],.sl .nil 2 [],.int .i64 0,.int .i64 0,.int .i64 0,.int .i64 0,.int .i64 0,.int .i64 0,.sl .nil 3 [],.sl .nil 2 [],.sl .nil 4 [],.sl .nil 1 [],.sl .nil 3 [],.imap true false []]),
 J 1 (.store 27 (.t 9) (.t 22))] false [6,7,8,9])) s Q:=rfl
theorem e7F {β:Type} (s:St) (Q:Ex->St->Option β):E Γ e6z s Q=E Γ ((.block 1 (.seq (.region 0 [
 I 0 23 (oL 7),
 I 1 24 (oU .not 23),
 M 2 25 24,
 U 3 26 25 (oF 0 8),
 U 4 27 25 (oL 26),
 U 5 28 25 (oS 27 9),
 U 6 29 25 (oS 27 6),
 U 7 30 25 (.call true (.t 27) [.t 28,.t 29]),
 I 8 31 (oO 25 30)] false [6,7,9,31])
 (.cond (.t 31)
 (.region 0 [
  I 0 32 (oS 27 9),
  J 1 (.store 27 (.t 6) (.t 32)),
  J 2 (.store 1 (.t 7) (kB true))] false [])
 (.skip))))) s Q:=rfl
def e8c (b:PBook):List (Nat × V):=[(1,.sc (.ptr 0 0)),(6,.sc (.ptr 2 0)),(7,.sc (.ptr 3 0)),(8,.sc (.ptr 4 0)),(21,.sc (.fn (.fn 311) [] [] [.eptr b.o 0]))]
def e7l (b:PBook) (ts:List D3):List Obj :=
 [.var b.c,.var b.o,.var (e7h b (b.e7x ts)),.var [.bool (b.e7x ts).isSome],.var [.fn (.fn 310) [] [] []],.loop .ready none (e8c b) [22] e6y e6z]
theorem f2T (b:PBook) (hs:PSane b) (H:List Obj) (M:Nat) (o:Option D3) (hn:H.length=M) (h6:6<=M)
 (h2:H[2]?=some (.var (e7h b o))) (h3:H[3]?=some (.var [.bool o.isSome])) (h4:H[4]?=some (.var [.fn (.fn 310) [] [] []])) (h5:H[5]?=some (.loop .ready none (e8c b) [22] e6y e6z)) (hu:H.all (Obj.under M)=true) (x:D3) :
 K Γ (.yield 5) [.agg (P27 x b.o)] H=some (vb true,(H.set 2 (.var (e7h b (b.pick o x)))).set 3 (.var [.bool (b.pick o x).isSome])):=by
 have hl2:2<H.length:=by omega
 have hl3:3<H.length:=by omega
 have hl4:4<H.length:=by omega
 have hl5:5<H.length:=by omega
 have hm2:2<M:=by omega
 have hm3:3<M:=by omega
 have hm4:4<M:=by omega
 have hm5:5<M:=by omega
 rw [c0y]
 obtain ⟨bz,hbz⟩:∃ x,Obj.loop .busy none (e8c b) [22] e6y e6z=x:=⟨_,rfl⟩
 have hbu (n:Nat):Obj.under (n+6) bz=true:=by subst hbz;simp [e8c,Obj.under,go_sem]
 have hob {β:Type} (f:List (Nat × V)->List Nat->AC->AC->Option β):b2i (some bz) f=f (e8c b) [22] e6y e6z:=by subst hbz;rfl
 have hB2:(H.set 5 bz)[2]?=some (.var (e7h b o)):=by rw [a5B _ _ _ _ (by decide),h2]
 have hB3:(H.set 5 bz)[3]?=some (.var [.bool o.isSome]):=by rw [a5B _ _ _ _ (by decide),h3]
 have hB4:(H.set 5 bz)[4]?=some (.var [.fn (.fn 310) [] [] []]):=by rw [a5B _ _ _ _ (by decide),h4]
 have hB5:(H.set 5 bz)[5]?=some bz:=b1c _ _ _ hl5
 have hC3 (v:Obj):((H.set 5 bz).set 2 v)[3]?=some (.var [.bool o.isSome]):=by rw [a5B _ _ _ _ (by decide),hB3]
 have hC5 (v w:Obj):(((H.set 5 bz).set 2 v).set 3 w)[5]?=some bz:=by rw [a5B _ _ _ _ (by decide),a5B _ _ _ _ (by decide),hB5]
 have hBu:(H.set 5 bz).all (Obj.under M)=true:=a6R _ _ _ _ hu (by rw [show M=(M - 6)+6 by omega];exact hbu _)
 have hsb (v w:Obj):=f2l H 5 2 3 bz v w _ (by decide) (by decide) h5
 have hs0:=f2k H 5 bz _ h5
 have hua (y:D3) (c:Bool):((H.set 2 (.var (P27 y b.o))).set 3 (.var [.bool c])).all (Obj.under M)=true:=a6R _ _ _ _ (a6R _ _ _ _ hu (by simp [go_sem])) (by simp [go_sem])
 simp only [e8c] at h5 hob hsb hs0 hbz ⊢
 cases o with
 | none =>
  simp only [PBook.pick,e7h,Option.isSome_some,Option.isSome_none] at *
  simp only [go_sem,simprocAttr,h5,e7E,e7F,hbz,hob,hn,a0E,hl2,hl3,hl4,hl5,hm2,hm3,hm4,hm5,hB2,hB3,hB4,hC3,hC5,hsb,hua,hBu,hu,a0Q]
 | some y =>
  have hK:=f2g (Γ:=Γ) b hs x y
  simp only [PBook.pick] at *
  cases hc:b.better x y with
  | true =>
   rw [hc] at hK
   simp only [e7h,Option.isSome_some,if_true] at *
   simp only [go_sem,simprocAttr,h5,e7E,e7F,hbz,hob,hn,a0E,hl2,hl3,hl4,hl5,hm2,hm3,hm4,hm5,hB2,hB3,hB4,hC3,hC5,hsb,hua,hBu,hu,hK,a0Q]
   | false =>
   rw [hc] at hK
   have e2:=b1j _ _ _ h2
   have e3:=b1j _ _ _ h3
   simp only [e7h,Option.isSome_some,Bool.false_eq_true,if_false] at *
   rw [e2,e3]
   simp only [go_sem,simprocAttr,h5,e7E,e7F,hbz,hob,hn,a0E,hl2,hl3,hl4,hl5,hm2,hm3,hm4,hm5,hB2,hB3,hB4,hB5,hs0,hua,hBu,hu,hK,a0Q]
theorem e8o (b:PBook) (ts:List D3):(e7l b ts).all (Obj.under 6)=true:=by
 cases h:b.e7x ts<;>simp [e7l,e8c,h,go_sem]
theorem f3L (b:PBook) (hs:PSane b):YieldsP Γ b (e7l b) 6 5 where
 yl:=by decide
 len:=fun _=>rfl
 und:=e8o b
 yield:=fun ts x fr hfr=>by
  have h:=f2T (Γ:=Γ) b hs (e7l b ts++fr) (6+fr.length) (b.e7x ts) (by simp [e7l];omega) (by omega) rfl rfl rfl rfl (by rw [List.all_append,a0Q _ 6 _ (e8o b ts),hfr];rfl) x
  rw [h]
  simp only [e7l,f0R]
  rfl
theorem f2Q (b:PBook):K Γ (.fn 287) [.agg b.o] []=some (.sc (.fn (.fn 311) [] [] [.eptr b.o 0]),[]):=by
 rw [K_fn P04.f287 _ _ rfl]
 simp only [go_sem,simprocAttr,e5N]
theorem f3J:K Γ (.fn 286) [] []=some (.agg [.fn (.fn 310) [] [] []],[]):=by
 rw [K_fn P04.f286 _ _ rfl]
 simp only [go_sem,simprocAttr,e6I]
theorem f2S (b:PBook) [hb:b.Fits] (hs:PSane b):K Γ (.fn 311) [.sc (.fn (.yield 5) [] [] []),.sc (.eptr b.o 0)] (e7l b [])=some (.tup [],e7l b b.plans):=by
 have hF:=(f3L (Γ:=Γ) b hs).frame [.var [.fn (.yield 5) [] [] []],.var [layF b 6 7]] (by simp [go_sem])
 have hL:=f3h (Γ:=Γ) b hs 5 6 7 b.rehs.length 0 e6u _ _ hF (fun ts=>rfl) (fun ts=>rfl) (by omega) (fun i day hi _=>e8M i day hi) []
 rw [List.nil_append] at hL
 have hpl:b.e6w b.rehs.length 0 e6u=b.plans:=rfl
 have hu0:=e8o b []
 have hu1:=e8o b b.plans
 have hl0:(e7l b []).length=6:=rfl
 have hl1:(e7l b b.plans).length=6:=rfl
 have ht1:(e7l b b.plans).take 6=e7l b b.plans:=rfl
 have huc:(e6u.c:List C)=[ci 9,ci 9,ci 9]:=rfl
 rw [hpl,huc] at hL
 change K Γ (.fn 320) [_,vi 0,_,_,_] _=_ at hL
 simp only [e7l,e8c,List.cons_append,List.nil_append] at hL hu0 hu1 ⊢
 rw [K_fn P04.f311 _ _ rfl]
 simp only [go_sem,simprocAttr,e5F,hu0,hu1,hL]
end
def PBook.best (b:PBook):Option D3:=b.e7x b.plans
def PBook.plan (b:PBook):List Int × Int:=if b.err true=0 then (match b.best with|some x=>(x.l.take b.rehs.length,0)|none=>([],4)) else ([],b.err true)
def PBook.b2o (b:PBook):SK:=if b.err true=0 then (match b.best with|some _=>if b.rehs.length≠0 then .full else .shared|none=>.nil) else .nil
section
variable {Γ:Env} [P04 Γ] [G04 Γ] [GCo Γ] [GPr Γ]
theorem e5z:Z24.length=24:=rfl
theorem e8Z (x:D3) (b:PBook) (b':Nat) (h:List Obj) (l:List (List C × List C)):frzL b' h 63 (P27 x (P24 b (.imap true false l)))=some (P27 x (P24 b (.imap true false l))):=rfl
theorem f1n (x:D3) (b:PBook) (m:C) (n:Nat) (hn:n<=3):chunks (P27 x (P24 b m)) 0 1 n=some (nums (x.l.take n)):=by
 have:n=0\/n=1\/n=2\/n=3:=by omega
 rcases this with rfl|rfl|rfl|rfl<;>rfl
theorem f1h (b:PBook) [hb:b.Fits]:K Γ (.fn 249) [.agg b.c] []=some (.tup [.sc (.sl b.b2o 1 (nums b.plan.1)),vi b.plan.2],[]):=by
 obtain ⟨cs,ha,hcs⟩:=e7S (Γ:=Γ) b true
 by_cases he:b.err true=0
 ·obtain ⟨hv, -, -⟩:=e7s he
  have hs:=e6h hv
  have hr3:=hs.r3
  rw [if_pos he] at hcs
  subst hcs
  rw [he] at ha
  have hpl:=f2Q (Γ:=Γ) b
  have hmo:=f3J (Γ:=Γ)
  have hW:=f2S (Γ:=Γ) b hs
  have hbo:b.e7x b.plans=b.best:=rfl
  have hb0:b.e7x []=none:=rfl
  simp only [e7l,e8c,hbo,hb0,e7h,Z27,Z24,List.cons_append,List.nil_append,Option.isSome_none] at hW
  simp only [PBook.plan,PBook.b2o,if_pos he]
  cases hB:b.best with
  | none =>
   simp only [hB,Option.isSome_none] at hW
   rw [K_fn P04.f249 _ _ rfl]
   simp only [go_sem,simprocAttr,e5p,ha,hpl,hmo,hW,nums,List.length_map,List.map_nil]
  | some x =>
   simp only [hB,Option.isSome_some] at hW
   have hsl:a8k 3 1 (.sc (.ptr 2 0)) none (some (vi b.rehs.length)) (some (vi b.rehs.length))=some (.msl 2 0 b.rehs.length b.rehs.length 1):=by
    have:b.rehs.length=0\/b.rehs.length=1\/b.rehs.length=2\/b.rehs.length=3:=by omega
    rcases this with h|h|h|h<;>rw [h]<;>rfl
   have hch:=f1n x b (.imap true false (encB b.e7q)) b.rehs.length hr3
   rw [K_fn P04.f249 _ _ rfl]
   simp only [go_sem,simprocAttr,e5p,ha,hpl,hmo,hW,hsl,hch,e8Z,List.length_map]
 ·have hd:decide (b.err true=0)=false:=decide_eq_false he
  rw [if_neg he] at hcs
  subst hcs
  simp only [PBook.plan,PBook.b2o,if_neg he]
  rw [K_fn P04.f249 _ _ rfl]
  simp only [go_sem,simprocAttr,e5p,ha,e5y,e5z,hd,nums,List.map_nil]
end
end Go.Pm.St
namespace Go.Pm.St
open Ac
def PBook.kept (b:PBook) (d:Int):List Int × Int:=if b.err (b.a2O d)=0 then (b.e5i d,0) else ([],b.err (b.a2O d))
def PBook.may (b:PBook) (l:List Int):Bool × Int:=if b.err true=0 then (decide (l.length=b.rehs.length)&&b.a4k (b.e7j l),0) else (false,b.err true)
def PBook.e8C (b:PBook) (l:List Int):Int × Int:=if b.err true=0 then (if decide (l.length=b.rehs.length)&&b.a4k (b.e7j l) then (b.keeps (b.e7j l),0) else (0,101)) else (0,b.err true)
def PBook.e8f (b:PBook) (r:Int):List Int × Int:=if b.err (b.e8H r)=0 then (b.alone r.toNat,0) else ([],b.err (b.e8H r))
def PBook.e6F (b:PBook):Nat->List Int
 | 0=>[]
 | j+1=>if (b.alone j).length=0 then b.e6F j++[(j:Int)] else b.e6F j
def PBook.never (b:PBook):List Int × Int:=if b.err true=0 then (b.e6F b.rehs.length,0) else ([],b.err true)
theorem e9W (b:PBook):∀ j,(b.e6F j).length<=j
 | 0=>Nat.le_refl 0
 | j+1=>by
  have:=e9W b j
  simp only [PBook.e6F]
  split
  ·simp;omega
  ·omega
section
variable {Γ:Env} [P04 Γ] [G04 Γ] [GCo Γ] [GPr Γ]
theorem e9Q (b:PBook) [hb:b.Fits] (d:Int):K Γ (.fn 238) [.agg b.c,vi d] []=some (.tup [.sc (.sl (kU (b.kept d).1) 1 (nums (b.kept d).1)),vi (b.kept d).2],[]):=by
 obtain ⟨cs,ha,hcs⟩:=e7S (Γ:=Γ) b (b.a2O d)
 by_cases he:b.err (b.a2O d)=0
 ·obtain ⟨hv, -, -⟩:=e7s he
  have hk:=e9n (Γ:=Γ) b (e6h hv) d
  rw [if_pos he] at hcs
  subst hcs
  rw [he] at ha
  simp only [PBook.kept,if_pos he]
  rw [K_fn P04.f238 _ _ rfl]
  (simp only [go_sem,simprocAttr,e5L,ha,hk];repeat' ((first|refine brY ?_|refine brN ?_|refine brA ?_|refine brD ?_|refine brF ?_);(try simp only [go_sem,simprocAttr,e5L,ha,hk])))
 ·have hd:decide (b.err (b.a2O d)=0)=false:=decide_eq_false he
  rw [if_neg he] at hcs
  subst hcs
  simp only [PBook.kept,if_neg he]
  rw [K_fn P04.f238 _ _ rfl]
  (simp only [go_sem,simprocAttr,e5L,ha,e5y,e5z,hd,nums,kU,List.map_nil];repeat' ((first|refine brY ?_|refine brN ?_|refine brA ?_|refine brD ?_|refine brF ?_);(try simp only [go_sem,simprocAttr,e5L,ha,e5y,e5z,hd,nums,kU,List.map_nil])))
theorem f4z (b:PBook) [hb:b.Fits] (k:SK) (l:List Int) (hl:l.length<=9223372036854775807):K Γ (.fn 245) [.agg b.c,.sc (.sl k 1 (nums l))] []=some (.tup [vb (b.may l).1,vi (b.may l).2],[]):=by
 obtain ⟨cs,ha,hcs⟩:=e7S (Γ:=Γ) b true
 by_cases he:b.err true=0
 ·obtain ⟨hv, -, -⟩:=e7s he
  have hs:=e6h hv
  have hL:=f1V (Γ:=Γ) b hs k l hl
  have hP:=f0i (Γ:=Γ) b hs (b.e7j l) (f0s b l)
  rw [if_pos he] at hcs
  subst hcs
  rw [he] at ha
  simp only [PBook.may,if_pos he]
  cases c1:decide (l.length=b.rehs.length) with
  | false =>
   rw [c1] at hL
   rw [K_fn P04.f245 _ _ rfl]
   simp only [go_sem,simprocAttr,e5u,ha,hL]
   try rfl
  | true =>
   rw [c1] at hL
   rw [K_fn P04.f245 _ _ rfl]
   simp only [go_sem,simprocAttr,e5u,ha,hL,hP]
   try rfl
 ·have hd:decide (b.err true=0)=false:=decide_eq_false he
  rw [if_neg he] at hcs
  subst hcs
  simp only [PBook.may,if_neg he]
  rw [K_fn P04.f245 _ _ rfl]
  simp only [go_sem,simprocAttr,e5u,ha,e5y,e5z,hd]
theorem f2L (b:PBook) [hb:b.Fits] (k:SK) (l:List Int) (hl:l.length<=9223372036854775807):K Γ (.fn 247) [.agg b.c,.sc (.sl k 1 (nums l))] []=some (.tup [vi (b.e8C l).1,vi (b.e8C l).2],[]):=by
 obtain ⟨cs,ha,hcs⟩:=e7S (Γ:=Γ) b true
 by_cases he:b.err true=0
 ·obtain ⟨hv, -, -⟩:=e7s he
  have hs:=e6h hv
  have hL:=f1V (Γ:=Γ) b hs k l hl
  have hP:=f0i (Γ:=Γ) b hs (b.e7j l) (f0s b l)
  have hK:=e9O (Γ:=Γ) b hs (b.e7j l)
  rw [if_pos he] at hcs
  subst hcs
  rw [he] at ha
  simp only [PBook.e8C,if_pos he]
  cases c1:decide (l.length=b.rehs.length) with
  | false =>
   rw [c1] at hL
   simp only [Bool.false_and,Bool.false_eq_true,if_false]
   rw [K_fn P04.f247 _ _ rfl]
   simp only [go_sem,simprocAttr,e5b,ha,hL]
   try rfl
  | true =>
   rw [c1] at hL
   cases c2:b.a4k (b.e7j l) with
   | false =>
    rw [c2] at hP
    simp only [Bool.and_false,Bool.false_eq_true,if_false]
    rw [K_fn P04.f247 _ _ rfl]
    simp only [go_sem,simprocAttr,e5b,ha,hL,hP]
    try rfl
   | true =>
    rw [c2] at hP
    simp only [Bool.and_self,if_true]
    rw [K_fn P04.f247 _ _ rfl]
    simp only [go_sem,simprocAttr,e5b,ha,hL,hP,hK]
    try rfl
 ·have hd:decide (b.err true=0)=false:=decide_eq_false he
  rw [if_neg he] at hcs
  subst hcs
  simp only [PBook.e8C,if_neg he]
  rw [K_fn P04.f247 _ _ rfl]
  simp only [go_sem,simprocAttr,e5b,ha,e5y,e5z,hd]
theorem f2K (b:PBook) [hb:b.Fits] (r:Int):K Γ (.fn 240) [.agg b.c,vi r] []=some (.tup [.sc (.sl (kU (b.e8f r).1) 1 (nums (b.e8f r).1)),vi (b.e8f r).2],[]):=by
 obtain ⟨cs,ha,hcs⟩:=e7S (Γ:=Γ) b (b.e8H r)
 by_cases he:b.err (b.e8H r)=0
 ·obtain ⟨hv,hr, -⟩:=e7s he
  rw [PBook.e8H,within_iff] at hr
  obtain ⟨n,rfl⟩:∃ n:Nat,r=n:=⟨r.toNat,by omega⟩
  have hk:=f0G (Γ:=Γ) b (e6h hv) n (by omega)
  rw [if_pos he] at hcs
  subst hcs
  rw [he] at ha
  simp only [PBook.e8f,if_pos he,Int.toNat_natCast]
  rw [K_fn P04.f240 _ _ rfl]
  (simp only [go_sem,simprocAttr,e5B,ha,hk];repeat' ((first|refine brY ?_|refine brN ?_|refine brA ?_|refine brD ?_|refine brF ?_);(try simp only [go_sem,simprocAttr,e5B,ha,hk])))
 ·have hd:decide (b.err (b.e8H r)=0)=false:=decide_eq_false he
  rw [if_neg he] at hcs
  subst hcs
  simp only [PBook.e8f,if_neg he]
  rw [K_fn P04.f240 _ _ rfl]
  (simp only [go_sem,simprocAttr,e5B,ha,e5y,e5z,hd,nums,kU,List.map_nil];repeat' ((first|refine brY ?_|refine brN ?_|refine brA ?_|refine brD ?_|refine brF ?_);(try simp only [go_sem,simprocAttr,e5B,ha,e5y,e5z,hd,nums,kU,List.map_nil])))
theorem f3D (b:PBook) [hb:b.Fits] (hs:PSane b) {β:Type} (Q:Ex->St->Option β) :
 E Γ e8b ⟨[(4,.sc (.ptr 1 0)),(6,.sc (.sl .nil 1 [])),(18,vi b.rehs.length),(19,vi 0)],[.var b.c,.var b.o]⟩ Q =
 Q (.exit 0) ⟨[(4,.sc (.ptr 1 0)),(6,.sc (ownC 1 (nums (b.e6F b.rehs.length)))),(18,vi b.rehs.length),(19,vi b.rehs.length),(20,vb false)],[.var b.c,.var b.o]⟩:=by
 have h3:=hs.r3
 refine (a4Q (fun j=>⟨[(4,.sc (.ptr 1 0)),(6,.sc (ownC 1 (nums (b.e6F j)))),(18,vi b.rehs.length),(19,vi j)],[.var b.c,.var b.o]⟩) b.rehs
  (.exit 0,⟨[(4,.sc (.ptr 1 0)),(6,.sc (ownC 1 (nums (b.e6F b.rehs.length)))),(18,vi b.rehs.length),(19,vi b.rehs.length),(20,vb false)],[.var b.c,.var b.o]⟩) Q ?_ ?_ ?_).trans ?_
 ·rfl
 ·intro j x hx
  have hj:=(List.getElem?_eq_some_iff.1 hx).1
  have hlt:=decide_eq_true (show (j:Int)<b.rehs.length by omega)
  have hjw:IntKind.i64.wrap ((j:Int)+1)=j+1:=wrap_i64 (by omega) (by omega)
  have hk:=e9W b j
  have happ:=a2K 1 (nums (b.e6F j)) .full [ci j] (by rw [e4t];simp only [room];omega)
  have hn:nums (b.e6F j)++[[ci j]]=nums (b.e6F j++[(j:Int)]):=by simp [nums]
  rw [hn] at happ
  have hP:=f0G (Γ:=Γ) b hs j hj
  simp only [PBook.e6F]
  by_cases hg:(b.alone j).length=0
  ·have hown:C.own false 1 (nums (b.e6F j++[(j:Int)]))=ownC 1 (nums (b.e6F j++[(j:Int)])):=f0E _ _
   have d0:decide (((b.alone j).length:Int)=0)=true:=decide_eq_true (by omega)
   rw [if_pos hg]
   simp only [go_sem,simprocAttr,e5g,hlt,hjw,hP,d0,happ,e4t]
   try rw [hown]
   try rfl
  ·have d0:decide (((b.alone j).length:Int)=0)=false:=decide_eq_false (by omega)
   rw [if_neg hg]
   simp only [go_sem,simprocAttr,e5g,hlt,hjw,hP,d0,e4t]
   try rfl
 ·have hlt:=decide_eq_false (show ¬ (b.rehs.length:Int)<b.rehs.length by omega)
  simp only [go_sem,simprocAttr,e5g,hlt]
  try rfl
 ·rfl
theorem f2M (b:PBook) [hb:b.Fits]:K Γ (.fn 242) [.agg b.c] []=some (.tup [.sc (.sl (kU b.never.1) 1 (nums b.never.1)),vi b.never.2],[]):=by
 obtain ⟨cs,ha,hcs⟩:=e7S (Γ:=Γ) b true
 by_cases he:b.err true=0
 ·obtain ⟨hv, -, -⟩:=e7s he
  have hL {β:Type} (Q:Ex->St->Option β):=f3D (Γ:=Γ) b (e6h hv) Q
  have hS:=e8t 1 (nums (b.e6F b.rehs.length)) (b.e6F b.rehs.length).length (e4t _)
  have hU:=e9d (b.e6F b.rehs.length)
  rw [hU,e9N] at hS
  rw [if_pos he] at hcs
  subst hcs
  rw [he] at ha
  simp only [PBook.never,if_pos he]
  rw [K_fn P04.f242 _ _ rfl]
  simp only [go_sem,simprocAttr,e5C,ha,hL,hS,hU,e4t,List.length_map]
 ·have hd:decide (b.err true=0)=false:=decide_eq_false he
  rw [if_neg he] at hcs
  subst hcs
  simp only [PBook.never,if_neg he]
  rw [K_fn P04.f242 _ _ rfl]
  simp only [go_sem,simprocAttr,e5C,ha,e5y,e5z,hd,nums,kU,List.map_nil]
end
end Go.Pm.St
namespace Go.Pm.St
open Ac
def bedX (k:SK) (l:List Hear):CBook:=⟨4,5,3,0,⟨1,2⟩,⟨1,1⟩,.nil,[],2,k,l⟩
def e8x:Book:=⟨.full,[⟨10,10⟩,⟨10,11⟩,⟨12,12⟩],⟨3,3⟩,⟨4,5⟩,⟨4,4⟩,.full,[⟨1,0,1⟩,⟨0,1,1⟩,⟨1,0,0⟩,⟨0,1,0⟩],.nil,[],.nil,[]⟩
def prB (k:SK) (l:List Hear) (one other:Reh):PBook:=⟨bedX k l,e8x,.full,[0,2,3],.full,[one,other]⟩
def e8j (w:Int):Reh:=⟨0,1,w⟩
def e8l (f:Int):Reh:=⟨f,3,1⟩
def hr1:Hear:=⟨0,1,true⟩
def hr2:Hear:=⟨2,2,true⟩
def ownP:PBook:=prB .nil [] (e8j 1) (e8l 1)
def e8k:PBook:=prB .full [hr1] (e8j 1) (e8l 1)
def e9b:PBook:=prB .nil [] (e8j 1) (e8l 2)
def e9y:PBook:=prB .nil [] (e8j 2) (e8l 1)
def f6o:PBook:=prB .full [hr1,hr2] (e8j 1) (e8l 1)
theorem e8m (k:SK) (l:List Hear) (one other:Reh) (hl:l.length<=100):(prB k l one other).Fits :=
 ⟨⟨by simp [prB,bedX],by simp only [prB,bedX];omega⟩,⟨by simp [prB,e8x],by simp [prB,e8x],by simp [prB,e8x],by simp [prB,e8x]⟩,by simp [prB],by simp [prB],by simp [prB,e8x]⟩
instance:ownP.Fits:=e8m _ _ _ _ (by decide)
instance:e8k.Fits:=e8m _ _ _ _ (by decide)
instance:e9b.Fits:=e8m _ _ _ _ (by decide)
instance:e9y.Fits:=e8m _ _ _ _ (by decide)
instance:f6o.Fits:=e8m _ _ _ _ (by decide)
theorem f4C:ownP.kept 1=([0,1],0):=by decide +kernel
theorem f6r:ownP.may [0,1]=(true,0):=by decide +kernel
theorem f3T:e8k.e8C [0,2]=(3,0):=by decide +kernel
theorem f3S:e9y.e8f 0=([0],0):=by decide +kernel
theorem f2s:e9b.plan=([0,9],0):=by decide +kernel
theorem f1m:e8k.plan=([0,1],0):=by decide +kernel
theorem f3U:e9b.never=([1],0):=by decide +kernel
theorem f3V:(ownP.valid&&ownP.can)=true:=by decide +kernel
theorem f3W:ownP.valid=true:=by decide +kernel
theorem f0K {b:PBook} {l:List Int} (h:b.plan=(l,0)) (h2:b.rehs.length≠0):b.b2o=.full:=by
 by_cases he:b.err true=0
 ·simp only [PBook.plan,if_pos he] at h
  simp only [PBook.b2o,if_pos he]
  cases hb:b.best with
  | none=>rw [hb] at h;simp at h
  | some x=>simp [h2]
 ·simp only [PBook.plan,if_neg he] at h
  exact absurd (Prod.mk.inj h).2 he
section
variable {Γ:Env} [P04 Γ] [G04 Γ] [GCo Γ] [GPr Γ]
@[go_sem] theorem f7P (k:SK) (l:List Hear):K Γ (.fn 295) [.sc (.sl k 3 (l.map Hear.c))] []=some (.agg (bedX k l).c,[]):=by
 rw [K_fn P04.f295 _ _ rfl]
 simp only [go_sem,simprocAttr,e6r]
 rfl
@[go_sem] theorem f7w (w:Int):K Γ (.fn 260) [vi w] []=some (.agg (e8j w).c,[]):=by
 rw [K_fn P04.f260 _ _ rfl]
 simp only [go_sem,simprocAttr,e5Z]
 rfl
@[go_sem] theorem f7x (w:Int):K Γ (.fn 261) [vi w] []=some (.agg (e8l w).c,[]):=by
 rw [K_fn P04.f261 _ _ rfl]
 simp only [go_sem,simprocAttr,e6c]
 rfl
@[go_sem] theorem f3i (k:SK) (l:List Hear) (one other:Reh):K Γ (.fn 262) [.sc (.sl k 3 (l.map Hear.c)),.agg one.c,.agg other.c] []=some (.agg (prB k l one other).c,[]):=by
 have hbx:(bedX k l).c=[ci 4,ci 5,ci 3,ci 0,ci 1,ci 2,ci 1,ci 1,.sl .nil 2 [],ci 2,.sl k 3 (l.map Hear.c)]:=rfl
 rw [K_fn P04.f262 _ _ rfl]
 simp only [go_sem,simprocAttr,e6j,hbx]
 try rfl
theorem e6v (one other:Reh):K Γ (.fn 262) [.sc (.sl .nil 3 []),.agg one.c,.agg other.c] []=some (.agg (prB .nil [] one other).c,[]):=f3i .nil [] one other
theorem f2e:K Γ (.fn 259) [] []=some (.agg ownP.c,[]):=by
 rw [K_fn P04.f259 _ _ rfl]
 simp only [go_sem,simprocAttr,e6s,e6v]
 rfl
theorem f0y:K Γ (.fn 264) [] []=some (.agg e8k.c,[]):=by
 have h:K Γ (.fn 262) [.sc (.sl .full 3 [[ci 0,ci 1,.bool true]]),.agg (e8j 1).c,.agg (e8l 1).c] []=some (.agg e8k.c,[]):=f3i .full [hr1] _ _
 rw [K_fn P04.f264 _ _ rfl]
 simp only [go_sem,simprocAttr,e6b,h]
 rfl
theorem f1f:K Γ (.fn 281) [] []=some (.agg e9b.c,[]):=by
 rw [K_fn P04.f281 _ _ rfl]
 simp only [go_sem,simprocAttr,e6k,e6v]
 rfl
theorem f0x:K Γ (.fn 280) [] []=some (.agg e9y.c,[]):=by
 rw [K_fn P04.f280 _ _ rfl]
 simp only [go_sem,simprocAttr,e6a,e6v]
 rfl
theorem f4O (k k':SK) (l m:List Int) (hl:l.length<=1000000) (hm:m.length<=1000000):K Γ (.fn 23) [.sc (.sl k 1 (nums l)),.sc (.sl k' 1 (nums m))] []=some (vb (decide (l=m)),[]):=c0w k k' l m hl hm
theorem f0h (k k':SK) (l:List Int) (hl:l.length<=1000000):K Γ (.fn 23) [.sc (.sl k 1 (nums l)),.sc (.sl k' 1 (nums l))] []=some (vb true,[]):=by
 rw [f4O k k' l l hl hl,decide_eq_true rfl]
@[go_sem] theorem f4G:K Γ (.fn 244) [] []=some (vb true,[]):=by
 have h1:=e9Q (Γ:=Γ) ownP 1
 have h2:=f4z (Γ:=Γ) ownP .full [0,1] (by decide)
 have h3:=f2L (Γ:=Γ) e8k .full [0,2] (by decide)
 have h4:=f2K (Γ:=Γ) e9y 0
 have h5:=f1h (Γ:=Γ) e9b
 have h6:=f1h (Γ:=Γ) e8k
 have h7:=f2M (Γ:=Γ) e9b
 have h8:=e9s (Γ:=Γ) ownP
 rw [f4C] at h1
 rw [f6r] at h2
 rw [f3T] at h3
 rw [f3S] at h4
 rw [f2s,f0K f2s (by decide)] at h5
 rw [f1m,f0K f1m (by decide)] at h6
 rw [f3U] at h7
 rw [f3V,f3W] at h8
 have e1:=fun k k'=>f0h (Γ:=Γ) k k' [0,1] (by decide)
 have e2:=fun k k'=>f0h (Γ:=Γ) k k' [0] (by decide)
 have e3:=fun k k'=>f0h (Γ:=Γ) k k' [0,9] (by decide)
 have e4:=fun k k'=>f0h (Γ:=Γ) k k' [1] (by decide)
 simp only [nums,List.map_cons,List.map_nil,kU] at h1 h2 h3 h4 h5 h6 h7 e1 e2 e3 e4
 rw [K_fn P04.f244 _ _ rfl]
 simp only [go_sem,simprocAttr,e6m,f2e,f0y,f1f,f0x,h1,h2,h3,h4,h5,h6,h7,h8,e1,e2,e3,e4]
end
end Go.Pm.St
namespace Go.Pm.St
open Ac
theorem a5Z {b:Book} (hv:b.valid=true) (is:Bool):b.err is=if is then if b.now.isEmpty then 42 else 0 else 41:=by simp only [Book.err,hv,if_true]
section
variable {Γ:Env} [P04 Γ] [G04 Γ]
end
end Go.Pm.St
namespace Go.Pm.St
open Ac
theorem d1j:∀ (l:List Int) (x:Int),(l.foldl min x=x\/l.foldl min x∈l)/\l.foldl min x<=x/\∀ y∈l,l.foldl min x<=y
 | [],x=>⟨.inl rfl,Int.le_refl _,fun y h=>by simp at h⟩
 | z::l,x=>by
  obtain ⟨h1,h2,h3⟩:=d1j l (min x z)
  simp only [List.foldl_cons]
  refine ⟨?_,by omega,fun y hy=>?_⟩
  ·rcases h1 with h1|h1
   ·rw [h1]
    by_cases h:x<=z
    ·exact .inl (by omega)
    ·refine .inr ?_
     rw [show min x z=z by omega];simp
   ·exact .inr (by simp [h1])
  ·rcases List.mem_cons.1 hy with rfl|hy
   ·omega
   ·exact h3 y hy
theorem d1G {l:List Int} (h:l≠[]):b2a l∈l/\∀ y∈l,b2a l<=y:=by
 cases l with
 | nil=>exact absurd rfl h
 | cons x l =>
  obtain ⟨h1,h2,h3⟩:=d1j l x
  refine ⟨?_,fun y hy=>?_⟩
  ·show l.foldl min x∈x::l
   rcases h1 with h1|h1
   ·rw [h1];simp
   ·simp [h1]
  ·rcases List.mem_cons.1 hy with rfl|hy
   ·exact h2
   ·exact h3 y hy
abbrev Can (b:Book) (c:Cost) (st:Nat->Int):Prop:=Way b (fun _=>false) c st
theorem d1Q {b:Book} (hs:Sane b):b.now≠[]<->∃ c st,Can b c st:=d1M hs
theorem d1L {b:Book} {but:Int->Bool} {t:Truth} (h:t∈b.a3d but):t.2=b.strong t.1 but:=by
 simp only [Book.a3d,List.mem_map] at h
 obtain ⟨c, -,rfl⟩:=h;rfl
theorem d1l {b:Book} (hs:Sane b) {i d:Nat} (hi:i<b.singers.length) {r:Nat->Bool} {v:Int}:v∈alls b b.now i d r<->∃ c st,Can b c st/\v=a2B b.days c (st i) r d:=by
 simp only [alls,List.mem_flatMap,allOf,List.mem_map]
 constructor
 ·rintro ⟨t,ht,n,hn,rfl⟩
  have h2:=d1L ht
  have hl:t.2[i]?=some (b.a1B t.1 i fun _=>false):=by rw [h2];simp [Book.strong,hi]
  rw [hl,Option.getD_some] at hn
  obtain ⟨st,w,e⟩:=d1v hs ht hi hn
  exact ⟨t.1,st,w,by rw [e]⟩
 ·rintro ⟨c,st,w,rfl⟩
  refine ⟨_,w.truth hs,st i,?_,rfl⟩
  have:(b.strong c fun _=>false)[i]?=some (b.a1B c i fun _=>false):=by simp [Book.strong,hi]
  rw [this,Option.getD_some]
  exact w.mem hs hi
theorem d1C {b:Book} (hs:Sane b) (hne:b.now≠[]) {i d:Nat} {r:Nat->Bool} (hi:i<b.singers.length):alls b b.now i d r≠[]:=by
 obtain ⟨x,l,h⟩:=c0F (b7Z hs) hne (d:=d) (r:=r) hi
 rw [h];simp
theorem d1A {b:Book} (hs:Sane b) (hne:b.now≠[]) {i:Nat} (hi:i<b.singers.length) (d:Nat) (r:Nat->Bool) :
 (∃ c st,Can b c st/\b.low i d r=a2B b.days c (st i) r d)/\∀ c st,Can b c st->b.low i d r<=a2B b.days c (st i) r d:=by
 obtain ⟨h1,h2⟩:=d1G (d1C hs hne (d:=d) (r:=r) hi)
 exact ⟨(d1l hs hi).1 h1,fun c st w=>h2 _ ((d1l hs hi).2 ⟨c,st,w,rfl⟩)⟩
end Go.Pm.St
namespace Go.Pm.St
open Ac
def Book.bare (b:Book):Book:={ b with kg:=.nil,signs:=[] }
def Book.lie (b:Book) (m:Rest):Book:={ b with kr:=.shared,rests:=b.rests++[m] }
def ownR (b:Book) (m:Rest):List C:=[.sl b.ks 2 (b.singers.map Span.c),ci b.c0.lo,ci b.c0.hi,ci b.c1.lo,ci b.c1.hi,ci b.c2.lo,ci b.c2.hi,.sl b.kd 3 (b.days.map Day.c),.own false 2 (b.rests.map Rest.c++[m.c]),.sl b.kg 4 (b.signs.map Sign.c)]
@[go_sem] theorem d1T (b:Book):b.c.set 9 (.sl .nil 4 [])=b.bare.c:=nrfl rfl
@[go_sem] theorem d1O (b:Book) (m:Rest):b.bare.c.set 8 (.own false 2 (b.rests.map Rest.c++[m.c]))=ownR b.bare m:=nrfl rfl
@[go_sem] theorem d1U (b:Book) (m:Rest):a0R (ownR b m) 0 10=some (ownR b m):=nrfl rfl
@[go_sem] theorem d1V (b:Book) (m:Rest):(ownR b m).map a0r=(b.lie m).c:=by
 simp [ownR,Book.lie,Book.c,a0r]
@[go_sem] theorem d1S (b:Book) (m:Rest) (n:Nat):C.a0G n (ownR b m)=true:=by simp [ownR,go_sem]
section
variable {Γ:Env} [P04 Γ] [G04 Γ]
end
end Go.Pm.St
namespace Go.Pm.St
open Ac
section
variable {Γ:Env} [P04 Γ] [G04 Γ]
end
end Go.Pm.St
namespace Go.Pm.St
open Ac
def Book.price (b:Book) (k:Int) (v:Int):Book:={ b with c0:=if k=0 then ⟨v,v⟩ else b.c0,c1:=if k=1 then ⟨v,v⟩ else b.c1,c2:=if k=2 then ⟨v,v⟩ else b.c2 }
@[go_sem] theorem d4s (b:Book) (v:Int):(b.c.set 1 (ci v)).set 2 (ci v)=(b.price 0 v).c:=nrfl rfl
@[go_sem] theorem d4t (b:Book) (v:Int):(b.c.set 3 (ci v)).set 4 (ci v)=(b.price 1 v).c:=nrfl rfl
@[go_sem] theorem d4u (b:Book) (v:Int):(b.c.set 5 (ci v)).set 6 (ci v)=(b.price 2 v).c:=nrfl rfl
def Book.reads (b:Book) (i d:Nat) (v:Int):Bool:=!(b.add ⟨i,d,v,0⟩).now.isEmpty
section
variable {Γ:Env} [P04 Γ] [G04 Γ]
end
end Go.Pm.St
namespace Go.Pm.St
open Ac
section
variable {Γ:Env} [P04 Γ] [G04 Γ]
end
end Go.Pm.St
namespace Go.Pm.St
open Ac
def Reh.draw (y:Reh) (bits:List Int) (i:Nat):Int:=if y.til - y.fr<turn (d8d bits i) (y.til - y.fr+2) then 9 else y.fr+turn (d8d bits i) (y.til - y.fr+2)
def PBook.f0p (b:PBook) (bits:List Int):Nat->List Int
 | 0=>[]
 | i+1=>match b.rehs[i]? with
  | some y=>b.f0p bits i++[y.draw bits i]
  | none=>b.f0p bits i
def PBook.drawn (b:PBook) (bits:List Int):List Int:=b.f0p bits b.rehs.length
@[go_sem] theorem PBook.c_19 (b:PBook):b.c[19]?=some (.sl b.st.kr 2 (b.st.rests.map Rest.c)):=nrfl rfl
@[go_sem] theorem PBook.c_8 (b:PBook):b.c[8]?=some (.sl b.cold.km 2 (b.cold.moves.map Move.c)):=nrfl rfl
section
variable {Γ:Env} [P04 Γ] [G04 Γ] [GCo Γ] [GPr Γ]
theorem f2i (b:PBook) [hb:b.Fits] (hs:PSane b) {β:Type} (Q:Ex->St->Option β) :
 E Γ e6M ⟨[(1,.sc (.ptr 0 0)),(3,vb true),(4,vi 0)],[.var b.c]⟩ Q=Q (.exit 0) ⟨[(1,.sc (.ptr 0 0)),(3,vb true),(4,vi b.sleeps.length),(95,vb false)],[.var b.c]⟩:=by
 have hs3:=hs.st.s3
 have hss:=hs.ss
 have hb5:=hs.cold.b1
 refine a4Q (fun i=>⟨[(1,.sc (.ptr 0 0)),(3,vb true),(4,vi i)],[.var b.c]⟩) b.sleeps (.exit 0,⟨[(1,.sc (.ptr 0 0)),(3,vb true),(4,vi b.sleeps.length),(95,vb false)],[.var b.c]⟩) Q rfl ?_ ?_
 ·intro i x hx
  have hlt':=(List.getElem?_eq_some_iff.1 hx).1
  have hlt:decide ((i:Int)<b.sleeps.length)=true:=decide_eq_true (by omega)
  have hiw:IntKind.i64.wrap ((i:Int)+1)=i+1:=wrap_i64 (by omega) (by omega)
  have hn:(nums b.sleeps)[i]?=some [ci x]:=by rw [e7n,hx];rfl
  have hw:IntKind.i64.wrap (b.cold.beds - 1)=b.cold.beds - 1:=wrap_i64 (by omega) (by omega)
  have hok:within x 0 (b.cold.beds - 1)=true:=within_iff.2 (by have:=hs.sl x (List.mem_of_getElem? hx);omega)
  (simp only [go_sem,simprocAttr,e5H,hn,hiw,hlt,hw,hok,e4t];repeat' ((first|refine brY ?_|refine brN ?_|refine brA ?_|refine brD ?_|refine brF ?_);(try simp only [go_sem,simprocAttr,e5H,hn,hiw,hlt,hw,hok,e4t])))
  rfl
 ·have hlt:decide ((b.sleeps.length:Int)<b.sleeps.length)=false:=decide_eq_false (by omega)
  (simp only [go_sem,simprocAttr,e5H,hlt,e4t];repeat' ((first|refine brY ?_|refine brN ?_|refine brA ?_|refine brD ?_|refine brF ?_);(try simp only [go_sem,simprocAttr,e5H,hlt,e4t])))
theorem f2j (b:PBook) [hb:b.Fits] (hs:PSane b) {β:Type} (Q:Ex->St->Option β) :
 E Γ e6N ⟨[(1,.sc (.ptr 0 0)),(3,vb true),(5,vi 0)],[.var b.c]⟩ Q=Q (.exit 2) ⟨[(1,.sc (.ptr 0 0)),(3,vb true),(5,vi b.rehs.length),(115,vb false)],[.var b.c]⟩:=by
 have hr3:=hs.r3
 refine a4Q (fun i=>⟨[(1,.sc (.ptr 0 0)),(3,vb true),(5,vi i)],[.var b.c]⟩) b.rehs (.exit 2,⟨[(1,.sc (.ptr 0 0)),(3,vb true),(5,vi b.rehs.length),(115,vb false)],[.var b.c]⟩) Q rfl ?_ ?_
 ·intro i x hx
  have hlt':=(List.getElem?_eq_some_iff.1 hx).1
  have hlt:decide ((i:Int)<b.rehs.length)=true:=decide_eq_true (by omega)
  have hiw:IntKind.i64.wrap ((i:Int)+1)=i+1:=wrap_i64 (by omega) (by omega)
  have hok:=hs.rh x (List.mem_of_getElem? hx)
  have k1:within x.fr 0 x.til=true:=within_iff.2 (by omega)
  have k2:decide (x.til<b.st.days.length)=true:=decide_eq_true (by omega)
  have k3:within x.wants 0 3=true:=within_iff.2 (by omega)
  (simp only [go_sem,simprocAttr,e5I,hx,hiw,hlt,k1,k2,k3,List.length_map];repeat' ((first|refine brY ?_|refine brN ?_|refine brA ?_|refine brD ?_|refine brF ?_);(try simp only [go_sem,simprocAttr,e5I,hx,hiw,hlt,k1,k2,k3,List.length_map])))
  rfl
 ·have hlt:decide ((b.rehs.length:Int)<b.rehs.length)=false:=decide_eq_false (by omega)
  (simp only [go_sem,simprocAttr,e5I,hlt,List.length_map];repeat' ((first|refine brY ?_|refine brN ?_|refine brA ?_|refine brD ?_|refine brF ?_);(try simp only [go_sem,simprocAttr,e5I,hlt,List.length_map])))
@[go_sem] theorem f7f (b:PBook) [hb:b.Fits]:K Γ (.fn 251) [.agg b.c] []=some (vb b.valid,[]):=by
 have hC:=f0F (Γ:=Γ) b
 cases hv:b.valid with
 | false =>
  rw [hv] at hC
  rw [K_fn P04.f251 _ _ rfl]
  simp only [go_sem,simprocAttr,e6d,hC,e6M,e5H,e6N,e5I,a1J]
 | true =>
  have hs:=e6h hv
  have hcc:=e8D (Γ:=Γ) b.cold
  have hcs:=c9C (Γ:=Γ) b.st
  rw [e8s hv] at hcc
  rw [e9Y hv] at hcs
  rw [hv] at hC
  have e0 {β:Type} (Q:Ex->St->Option β):=f2i (Γ:=Γ) b hs Q
  have e1 {β:Type} (Q:Ex->St->Option β):=f2j (Γ:=Γ) b hs Q
  have h1:within b.st.singers.length 1 3=true:=within_iff.2 (by have:=hs.st.s1;have:=hs.st.s3;omega)
  have h2:decide ((b.sleeps.length:Int)=b.st.singers.length)=true:=decide_eq_true (by have:=hs.ss;omega)
  have h3:within b.st.days.length 1 5=true:=within_iff.2 (by have:=hs.st.d1;have:=hs.st.d5;omega)
  have h4:within b.cold.beds 1 5=true:=within_iff.2 hs.cold.b1
  have h5:within b.cold.days 1 6=true:=within_iff.2 hs.cold.d1
  have h6:decide ((b.st.days.length:Int)<=b.cold.days)=true:=decide_eq_true hs.dd
  have h7:decide ((b.rehs.length:Int)<=3)=true:=decide_eq_true (by have:=hs.r3;omega)
  have h8:decide ((b.st.rests.length:Int)<=6)=true:=decide_eq_true (by have:=hs.st.r6;omega)
  have h9:decide ((b.cold.moves.length:Int)<=3)=true:=decide_eq_true (by have:=hs.cold.m3;omega)
  rw [K_fn P04.f251 _ _ rfl]
  simp only [go_sem,simprocAttr,e6d,hC,hcc,hcs,h1,h2,h3,h4,h5,h6,h7,h8,h9,e0,e1,e4t,List.length_map]
end
end Go.Pm.St
namespace Go.Pm.St
open Ac
/-! ### Who is kept -/
theorem e9v {p:Cold->Bool} {ts:List Cold} (hne:ts≠[]):0<e8B p ts<->∃ w∈ts,p w=true:=by
 have h0:0<ts.length:=List.length_pos_iff.2 hne
 simp only [e8B]
 constructor
 ·intro h
  by_cases hf:0<(ts.filter p).length
  ·obtain ⟨w,hw⟩:=List.length_pos_iff_exists_mem.1 hf
   exact ⟨w,List.mem_filter.1 hw⟩
  ·rw [if_neg hf,if_neg (by omega)] at h;omega
 ·rintro ⟨w,h1,h2⟩
  have:0<(ts.filter p).length:=List.length_pos_iff_exists_mem.2 ⟨w,List.mem_filter.2 ⟨h1,h2⟩⟩
  rw [if_pos this];split<;>omega
theorem f0P {b:PBook} (hs:PSane b) {s:Nat} (h:s<b.sleeps.length):0<=b.sleeps[s]?.getD 0/\b.sleeps[s]?.getD 0<b.cold.beds:=by
 rw [List.getElem?_eq_getElem h]
 exact hs.sl _ (List.getElem_mem h)
/-! ### Lists of some numbers, in their order -/
def e6D (f:Nat->Bool):Nat->List Int
 | 0=>[]
 | j+1=>if f j then e6D f j++[(j:Int)] else e6D f j
theorem e8K (b:PBook) (d:Int):∀ n,b.d2x d n=e6D (fun j=>gotB b.e7q j d) n
 | 0=>rfl
 | n+1=>by simp only [PBook.d2x,e6D,e8K b d n]
theorem e9X (f:Nat->Bool) (j:Nat):∀ n,(e6D f n).contains (j:Int)=(decide (j<n)&&f j)
 | 0=>by simp [e6D]
 | n+1=>by
  have ih:=e9X f j n
  simp only [e6D]
  by_cases h:j=n
  ·subst h
   cases hf:f j with
   | true=>simp [List.contains_append]
   | false=>simp only [Bool.false_eq_true,if_false,ih,hf,Bool.and_false]
  ·have e:decide (j<n+1)=decide (j<n):=decide_eq_decide.2 (by omega)
   rw [e, ← ih]
   split
   ·have hne:¬ (j:Int)=n:=by omega
    simp [List.contains_append,hne]
   ·rfl
section
variable {Γ:Env} [P04 Γ] [G04 Γ] [GCo Γ] [GPr Γ]
end
end Go.Pm.St
namespace Go.Pm.St
theorem f9d {l:List Int} {n:Int} {i:Nat} (h:l[i]?=some n) (h2:n ∉ l.take i):d2R l n=i:=by
 unfold d2R
 cases hf:a0z (fun _ x=>decide (x=n)) 0 l with
 | none =>
  have:=a2L.1 hf i n h
  simp at this
 | some q =>
  obtain ⟨j,x⟩:=q
  obtain ⟨-,a2,a3,a4⟩:=a3F hf
  simp only [Nat.sub_zero,Nat.zero_add,decide_eq_true_eq] at a2 a3 a4
  subst a3
  have h3:¬ i<j:=fun hij=>by simpa using a4 i x hij h
  have h4:¬ j<i:=fun hji=>h2 (List.mem_iff_getElem?.2 ⟨j,by rw [List.getElem?_take];simp [hji,a2]⟩)
  show ((j:Nat):Int)=i
  omega
def f8K (l:List Int):List Int:=l.filter fun n=>decide (n≠9)
theorem f9a {l:List Int} {n:Int} (h:n≠9):(f8K l).contains n=l.contains n:=by
 rw [Bool.eq_iff_iff,List.contains_iff_mem,List.contains_iff_mem,f8K,List.mem_filter]
 simp [h]
theorem f9h (l:List Int) (n:Int):f8K (l++[n])=if n=9 then f8K l else f8K l++[n]:=by
 by_cases h:n=9<;>simp [f8K,List.filter_append,h]
def PBook.layN (b:PBook) (x:D3):Nat->Option (List Int × List Day)
 | 0=>some ([],b.st.days)
 | i+1=>(b.layN x i).bind fun s=>match x.l[i]? with
  | some day=>b.lay1 s i day
  | none=>some s
theorem f9J (b:PBook) (x:D3):b.lays x=b.layN x 3:=rfl
def PBook.okAt (b:PBook) (x:D3) (i:Nat):Bool:=match x.l[i]? with
 | some d=>decide (d=9)||((match b.rehs[i]? with|some y=>within d (max b.e7T y.fr) y.til|none=>false)&&(match b.st.days[d.toNat]? with|some z=>decide (z.plain<=1)|none=>false)&&!(x.l.take i).contains d)
 | none=>true
def PBook.f8W (b:PBook) (x:D3):Bool:=b.okAt x 0&&b.okAt x 1&&b.okAt x 2
def PBook.f8T (b:PBook) (l:List Int) (d:Int):Int:=match b.rehs[(d2R l d).toNat]? with|some y=>y.wants|none=>0
def PBook.dayOf (b:PBook) (l m:List Int) (d:Nat) (z:Day):Day:=if m.contains (d:Int) then ⟨z.plain+1,z.full,max z.needs (b.f8T l d)⟩ else z
theorem f9m (b:PBook) (hs:PSane b) (x:D3):∀ i,i<=3 →
 (match b.layN x i with
 | some s=>(∀ j,j<i->b.okAt x j=true)/\s.1=f8K (x.l.take i)/\s.2.length=b.st.days.length/\∀ (d:Nat) z0,b.st.days[d]?=some z0->s.2[d]?=some (b.dayOf x.l (f8K (x.l.take i)) d z0)
 | none=>∃ j,j<i/\b.okAt x j=false)
 | 0,_=>by
  refine ⟨fun j hj=>by omega,rfl,rfl,fun d z0 hz=>?_⟩
  simp [PBook.dayOf,f8K,hz]
 | i+1,hi=>by
  have ih:=f9m b hs x i (by omega)
  simp only [PBook.layN]
  cases hl:b.layN x i with
  | none =>
   rw [hl] at ih
   obtain ⟨j,hj,hf⟩:=ih
   exact ⟨j,by omega,hf⟩
  | some s =>
   rw [hl] at ih
   obtain ⟨h1,h2,h3,h4⟩:=ih
   obtain ⟨day,hday⟩:∃ day,x.l[i]?=some day:=⟨_,List.getElem?_eq_getElem (show i<3 by omega)⟩
   have htk:=take_snoc hday
   simp only [Option.bind_some,hday]
   have hok:∀ (u:Bool),b.okAt x i=u->u=true->∀ j,j<i+1->b.okAt x j=true:=fun u hu ht j hj=>by
    by_cases hji:j=i
    ·subst hji;rw [hu,ht]
    ·exact h1 j (by omega)
   by_cases h9:day=9
   ·have e:b.lay1 s i day=some s:=by simp only [PBook.lay1,if_pos h9]
    have e2:b.okAt x i=true:=by simp only [PBook.okAt,hday,decide_eq_true h9,Bool.true_or]
    rw [e,htk,f9h,if_pos h9]
    exact ⟨hok _ e2 rfl,h2,h3,h4⟩
   ·have d9:=decide_eq_false h9
    cases hy:b.rehs[i]? with
    | none =>
     have e:b.lay1 s i day=none:=by simp only [PBook.lay1,if_neg h9,hy]
     rw [e]
     exact ⟨i,by omega,by simp only [PBook.okAt,hday,d9,hy,Bool.false_or,Bool.false_and]⟩
    | some y =>
     cases hw:within day (max b.e7T y.fr) y.til with
     | false =>
      have e:b.lay1 s i day=none:=by
       simp only [PBook.lay1,if_neg h9,hy]
       split
       ·rename_i e1 _ _;cases e1;rw [hw];rfl
       ·rfl
      rw [e]
      exact ⟨i,by omega,by simp only [PBook.okAt,hday,d9,hy,hw,Bool.false_or,Bool.false_and]⟩
     | true =>
      have hr:=hs.rh y (List.mem_of_getElem? hy)
      have hw2:=within_iff.1 hw
      obtain ⟨d,rfl⟩:∃ d:Nat,day=d:=⟨day.toNat,by omega⟩
      have hd:d<b.st.days.length:=by omega
      obtain ⟨z0,hz0⟩:∃ z0,b.st.days[d]?=some z0:=⟨_,List.getElem?_eq_getElem hd⟩
      have hz:=h4 d z0 hz0
      have hct:s.1.contains (d:Int)=(x.l.take i).contains (d:Int):=by rw [h2,f9a h9]
      have e:b.lay1 s i d=if decide (z0.plain<=1)&&!(x.l.take i).contains (d:Int) then some (s.1++[(d:Int)],s.2.set d ⟨(b.dayOf x.l (f8K (x.l.take i)) d z0).plain+1,(b.dayOf x.l (f8K (x.l.take i)) d z0).full,max (b.dayOf x.l (f8K (x.l.take i)) d z0).needs y.wants⟩) else none:=by
       simp only [PBook.lay1,if_neg h9,Int.toNat_natCast,hy,hz,hz0,hw,hct,Bool.true_and]
      have eok:b.okAt x i=(decide (z0.plain<=1)&&!(x.l.take i).contains (d:Int)):=by
       simp only [PBook.okAt,hday,d9,hy,hw,Int.toNat_natCast,hz0,Bool.false_or,Bool.true_and]
      rw [e]
      cases hc:(decide (z0.plain<=1)&&!(x.l.take i).contains (d:Int)) with
      | false =>
       rw [hc] at eok
       simp only [Bool.false_eq_true,if_false]
       exact ⟨i,by omega,eok⟩
      | true =>
       rw [hc] at eok
       simp only [if_true]
       simp only [Bool.and_eq_true,Bool.not_eq_true'] at hc
       have hnt:=hc.2
       have hfirst:d2R x.l (d:Int)=i:=f9d hday (fun hm=>by rw [← List.contains_iff_mem,hnt] at hm;cases hm)
       have hwants:b.f8T x.l (d:Int)=y.wants:=by simp only [PBook.f8T,hfirst,Int.toNat_natCast,hy]
       have hd0:b.dayOf x.l (f8K (x.l.take i)) d z0=z0:=by
        simp only [PBook.dayOf,f9a h9,hnt,Bool.false_eq_true,if_false]
       rw [htk,f9h,if_neg h9]
       refine ⟨hok _ eok rfl,by rw [h2],by rw [List.length_set];exact h3,fun e w0 hw0=>?_⟩
       simp only [List.getElem?_set]
       by_cases hde:d=e
       ·subst hde
        rw [hz0] at hw0
        cases hw0
        rw [if_pos rfl,if_pos (by rw [h3];exact hd),hd0]
        simp [PBook.dayOf,hwants]
       ·have hne:¬ (e:Int)=d:=by omega
        rw [if_neg hde,h4 e w0 hw0]
        simp [PBook.dayOf,List.contains_append,hne]
def PBook.f8J (b:PBook) (l m:List Int):List Day:=b.st.days.mapIdx fun d z=>b.dayOf l m d z
theorem f9I (b:PBook) (hs:PSane b) (x:D3):b.a4k x=(b.f8W x&&((b.held (b.f8J x.l (f8K x.l))).safe (b.e5W (e7d (f8K x.l)))).1):=by
 have h:=f9m b hs x 3 (Nat.le_refl 3)
 unfold PBook.a4k
 rw [f9J]
 cases hl:b.layN x 3 with
 | none =>
  rw [hl] at h
  obtain ⟨j,hj,hf⟩:=h
  have:b.f8W x=false:=by
   have:j=0\/j=1\/j=2:=by omega
   rcases this with rfl|rfl|rfl<;>simp [PBook.f8W,hf]
  rw [this];rfl
 | some s =>
  rw [hl] at h
  obtain ⟨h1,h2,h3,h4⟩:=h
  have hx3:x.l.take 3=x.l:=rfl
  rw [hx3] at h2 h4
  have hall:b.f8W x=true:=by simp [PBook.f8W,h1 0 (by omega),h1 1 (by omega),h1 2 (by omega)]
  have hds:s.2=b.f8J x.l (f8K x.l):=by
   apply List.ext_getElem?
   intro d
   rw [PBook.f8J,List.getElem?_mapIdx]
   by_cases hd:d<b.st.days.length
   ·rw [List.getElem?_eq_getElem hd,h4 d _ (List.getElem?_eq_getElem hd)];rfl
   ·rw [List.getElem?_eq_none (by omega),List.getElem?_eq_none (by omega)];rfl
  simp only [hall,Bool.true_and,h2,hds]
/-! ### Sorted -/
theorem f9i (f:Nat->Bool) (n:Nat) (h:∀ j,n<=j->f j=false):∀ k,e6D f (n+k)=e6D f n
 | 0=>rfl
 | k+1=>by
  have:=h (n+k) (by omega)
  rw [← Nat.add_assoc]
  simp only [e6D,this,Bool.false_eq_true,if_false,f9i f n h k]
def f9z (a b c:Nat):Bool:=(a == b||a == c||b == c)||e7d [(a:Int),(b:Int),(c:Int)] == e6D (fun j=>[(a:Int),(b:Int),(c:Int)].contains (j:Int)) 5
def f9y (a b:Nat):Bool:=a == b||e7d [(a:Int),(b:Int)] == e6D (fun j=>[(a:Int),(b:Int)].contains (j:Int)) 5
def f9x (a:Nat):Bool:=e7d [(a:Int)] == e6D (fun j=>[(a:Int)].contains (j:Int)) 5
theorem f9t:((List.range 5).all fun a=>(List.range 5).all fun b=>(List.range 5).all fun c=>f9z a b c)=true:=by decide +kernel
theorem f9s:((List.range 5).all fun a=>(List.range 5).all fun b=>f9y a b)=true:=by decide +kernel
theorem f9r:((List.range 5).all fun a=>f9x a)=true:=by decide +kernel
theorem f9K (l:List Int) (n:Nat) (hn:n<=5) (hl:l.length<=3) (hx:∀ x∈l,0<=x/\x<n) (hd:l.Nodup):e7d l=e6D (fun j=>l.contains (j:Int)) n:=by
 have nat:∀ x∈l,∃ f:Nat,x=f/\f<5:=fun x h=>⟨x.toNat,by have:=hx x h;omega,by have:=hx x h;omega⟩
 have hm:e6D (fun j=>l.contains (j:Int)) 5=e6D (fun j=>l.contains (j:Int)) n:=by
  have:=f9i (fun j=>l.contains (j:Int)) n (fun j hj=>by
   rw [Bool.eq_false_iff]
   intro h
   have:=hx _ (List.contains_iff_mem.1 h)
   omega) (5 - n)
  rwa [show n+(5 - n)=5 by omega] at this
 rw [← hm]
 clear hm
 match l,hl,hd,nat with
 | [],_,_,_=>rfl
 | [a],_,_,nat =>
  obtain ⟨a',rfl,ha⟩:=nat a (by simp)
  have:=List.all_eq_true.1 f9r a' (List.mem_range.2 ha)
  simpa [f9x] using this
 | [a,c],_,hd,nat =>
  obtain ⟨a',rfl,ha⟩:=nat a (by simp)
  obtain ⟨c',rfl,hc⟩:=nat c (by simp)
  have:=List.all_eq_true.1 (List.all_eq_true.1 f9s a' (List.mem_range.2 ha)) c' (List.mem_range.2 hc)
  simp only [List.nodup_cons,List.mem_cons,List.not_mem_nil,or_false] at hd
  simp only [f9y,Bool.or_eq_true,beq_iff_eq] at this
  exact this.resolve_left (fun e=>hd.1 (by rw [e]))
 | [a,c,e],_,hd,nat =>
  obtain ⟨a',rfl,ha⟩:=nat a (by simp)
  obtain ⟨c',rfl,hc⟩:=nat c (by simp)
  obtain ⟨e',rfl,he⟩:=nat e (by simp)
  have:=List.all_eq_true.1 (List.all_eq_true.1 (List.all_eq_true.1 f9t a' (List.mem_range.2 ha)) c' (List.mem_range.2 hc)) e' (List.mem_range.2 he)
  simp only [List.nodup_cons,List.mem_cons,List.not_mem_nil,or_false,not_or] at hd
  simp only [f9z,Bool.or_eq_true,beq_iff_eq] at this
  rcases this with ((h|h)|h)|h
  ·exact absurd (by rw [h]) hd.1.1
  ·exact absurd (by rw [h]) hd.1.2
  ·exact absurd (by rw [h]) hd.2.1
  ·exact h
theorem f9P {b:PBook} (hs:PSane b) {x:D3} (h:b.f8W x=true):(∀ d∈f8K x.l,0<=d/\d<b.st.days.length)/\(f8K x.l).Nodup/\(f8K x.l).length<=3:=by
 simp only [PBook.f8W,Bool.and_eq_true] at h
 obtain ⟨⟨k0,k1⟩,k2⟩:=h
 have key:∀ (i:Nat) (d:Int),x.l[i]?=some d->b.okAt x i=true->d=9\/((0<=d/\d<b.st.days.length)/\d ∉ x.l.take i):=by
  intro i d hd hk
  simp only [PBook.okAt,hd,Bool.or_eq_true,decide_eq_true_eq,Bool.and_eq_true,Bool.not_eq_true'] at hk
  rcases hk with hk|⟨⟨h1,h2⟩,h3⟩
  ·exact .inl hk
  ·right
   cases hy:b.rehs[i]? with
   | none=>rw [hy] at h1;cases h1
   | some y =>
    rw [hy] at h1
    have hr:=hs.rh y (List.mem_of_getElem? hy)
    have:=within_iff.1 h1
    exact ⟨by omega,fun hm=>by rw [← List.contains_iff_mem,h3] at hm;cases hm⟩
 have q0:=key 0 x.d0 rfl k0
 have q1:=key 1 x.d1 rfl k1
 have q2:=key 2 x.d2 rfl k2
 refine ⟨fun d hd=>?_,?_,Nat.le_trans (List.length_filter_le _ _) (Nat.le_refl 3)⟩
 ·simp only [f8K,List.mem_filter,decide_eq_true_eq] at hd
  obtain ⟨hm,h9⟩:=hd
  have:d=x.d0\/d=x.d1\/d=x.d2:=by simpa [D3.l] using hm
  rcases this with rfl|rfl|rfl
  ·exact (q0.resolve_left h9).1
  ·exact (q1.resolve_left h9).1
  ·exact (q2.resolve_left h9).1
 ·have t1:x.l.take 1=[x.d0]:=rfl
  have t2:x.l.take 2=[x.d0,x.d1]:=rfl
  rw [t1] at q1
  rw [t2] at q2
  simp only [List.mem_cons,List.not_mem_nil,or_false,not_or] at q1 q2
  have e:x.l=[x.d0,x.d1,x.d2]:=rfl
  rw [e,f8K]
  by_cases a0:x.d0=9<;>by_cases a1:x.d1=9<;>by_cases a2:x.d2=9<;>simp [List.filter_cons,a0,a1,a2]
  ·exact fun h=>(q2.resolve_left a2).2.2 h.symm
  ·exact fun h=>(q2.resolve_left a2).2.1 h.symm
  ·exact fun h=>(q1.resolve_left a1).2 h.symm
  ·exact ⟨⟨fun h=>(q1.resolve_left a1).2 h.symm,fun h=>(q2.resolve_left a2).2.1 h.symm⟩,fun h=>(q2.resolve_left a2).2.2 h.symm⟩
theorem f9w (b:PBook) (hs:PSane b) (x:D3):b.a4k x=(b.f8W x&&((b.held (b.f8J x.l x.l)).safe (b.e5W (e6D (fun j=>x.l.contains (j:Int)) b.st.days.length))).1):=by
 rw [f9I b hs]
 cases h:b.f8W x with
 | false=>simp only [Bool.false_and]
 | true =>
  obtain ⟨h1,h2,h3⟩:=f9P hs h
  have hd5:=hs.st.d5
  have e1:e6D (fun j=>(f8K x.l).contains (j:Int)) b.st.days.length=e6D (fun j=>x.l.contains (j:Int)) b.st.days.length:=by
   have:∀ n,n<=5->e6D (fun j=>(f8K x.l).contains (j:Int)) n=e6D (fun j=>x.l.contains (j:Int)) n:=by
    intro n
    induction n with
    | zero=>intro _;rfl
    | succ n ih=>intro hn;simp only [e6D,ih (by omega),f9a (show ¬ (n:Int)=9 by omega)]
   exact this _ hd5
  have e2:b.f8J x.l (f8K x.l)=b.f8J x.l x.l:=by
   apply List.ext_getElem?
   intro d
   simp only [PBook.f8J,List.getElem?_mapIdx]
   cases hz:b.st.days[d]? with
   | none=>rfl
   | some z =>
    have:=(List.getElem?_eq_some_iff.1 hz).1
    simp only [Option.map_some,PBook.dayOf,f9a (show ¬ (d:Int)=9 by omega)]
  rw [f9K _ _ hd5 h3 h1 h2,e1,e2]
end Go.Pm.St
namespace Go.Pm.St
theorem D3.g0R {x y:D3} (h:x.l=y.l):x=y:=by
 obtain ⟨a,c,d⟩:=x
 obtain ⟨a',c',d'⟩:=y
 simp only [D3.l,List.cons.injEq,and_true] at h
 obtain ⟨rfl,rfl,rfl⟩:=h
 rfl
def D3.val (x:D3):Int:=x.d0*100+x.d1*10+x.d2
theorem l0 (x:D3):x.l[0]?=some x.d0:=rfl
theorem l1 (x:D3):x.l[1]?=some x.d1:=rfl
theorem l2 (x:D3):x.l[2]?=some x.d2:=rfl
def D3.g0k (x:D3) (i:Nat) (y:D3):Prop:=y.l.take i=x.l.take i/\∀ (j:Nat) d,i<=j->y.l[j]?=some d->0<=d/\d<=9
theorem g0P {x y:D3} {i:Nat} {d:Int} (hi:i<3) (hd:0<=d/\d<=9) (h:(x.put i d).g0k (i+1) y):x.g0k i y/\y.l[i]?=some d:=by
 obtain ⟨h1,h2⟩:=h
 have hy:y.l[i]?=some d:=by
  have:=congrArg (fun l=>l[i]?) h1
  simp only [List.getElem?_take,if_pos (Nat.lt_succ_self i)] at this
  rw [this,D3.f1j _ _ _ _ hi,if_pos rfl]
 refine ⟨⟨?_,fun j e hj he=>?_⟩,hy⟩
 ·have:=congrArg (fun l=>l.take i) h1
  simp only [List.take_take,Nat.min_eq_left (Nat.le_succ i)] at this
  rw [this,D3.f2R]
 ·by_cases hji:j=i
  ·subst hji;rw [hy] at he;cases he;exact hd
  ·exact h2 j e (by omega) he
theorem g0O {x y z:D3} {i:Nat} {a c:Int} (hi:i<3) (hy:x.g0k i y) (hz:x.g0k i z) (hya:y.l[i]?=some a) (hzc:z.l[i]?=some c) (h:a<c):y.val<z.val:=by
 obtain ⟨t1,b1⟩:=hy
 obtain ⟨t2,b2⟩:=hz
 have e:y.l.take i=z.l.take i:=t1.trans t2.symm
 have:i=0\/i=1\/i=2:=by omega
 simp only [D3.val]
 rcases this with rfl|rfl|rfl
 ·rw [l0] at hya hzc
  cases hya;cases hzc
  have:=b1 1 _ (by omega) (l1 y);have:=b1 2 _ (by omega) (l2 y);have:=b2 1 _ (by omega) (l1 z);have:=b2 2 _ (by omega) (l2 z)
  omega
 ·rw [l1] at hya hzc
  cases hya;cases hzc
  have e0:y.d0=z.d0:=by simpa [D3.l] using e
  have:=b1 2 _ (by omega) (l2 y);have:=b2 2 _ (by omega) (l2 z)
  omega
 ·rw [l2] at hya hzc
  cases hya;cases hzc
  have e0:y.d0=z.d0/\y.d1=z.d1:=by simpa [D3.l] using e
  omega
theorem g0g {α:Type} {f:Int->List α} {tk:List Int} {fr:Int} {y:α}:∀ {n:Nat},y∈e7U f tk fr n<->∃ j:Nat,j<n/\tk.contains (fr+j)=false/\y∈f (fr+j)
 | 0=>by simp [e7U]
 | n+1=>by
  simp only [e7U,List.mem_append,g0g (n:=n)]
  constructor
  ·rintro (⟨j,hj,h1,h2⟩|h)
   ·exact ⟨j,by omega,h1,h2⟩
   ·cases hc:tk.contains (fr+n) with
    | true=>rw [hc] at h;simp at h
    | false=>rw [hc] at h;exact ⟨n,by omega,hc,by simpa using h⟩
  ·rintro ⟨j,hj,h1,h2⟩
   by_cases hjn:j=n
   ·subst hjn;right;rw [h1];simpa using h2
   ·exact .inl ⟨j,by omega,h1,h2⟩
theorem g0z {f:Int->List D3} {tk:List Int} {fr:Int} (R:D3->D3->Prop) (n:Nat) (h1:∀ j:Nat,j<n->(f (fr+j)).Pairwise R) (h2:∀ j k:Nat,j<k->k<n->∀ y∈f (fr+j),∀ z∈f (fr+k),R y z) :
 ∀ m,m<=n->(e7U f tk fr m).Pairwise R
 | 0,_=>List.Pairwise.nil
 | m+1,hm=>by
  have ih:=g0z (tk:=tk) R n h1 h2 m (by omega)
  simp only [e7U]
  refine List.pairwise_append.2 ⟨ih,?_,fun y hy z hz=>?_⟩
  ·split
   ·exact List.Pairwise.nil
   ·exact h1 m (by omega)
  ·obtain ⟨j,hj, -,hyj⟩:=g0g.1 hy
   split at hz
   ·cases hz
   ·exact h2 j m hj (by omega) y hyj z hz
theorem g0j (b:PBook) (hs:PSane b):∀ (n at_:Nat) (x:D3),at_+n=b.rehs.length->(∀ (i:Nat) d,x.l[i]?=some d->at_<=i->d=9) →
 (b.e6w n at_ x).Pairwise (fun y z=>y.val<z.val)/\∀ y∈b.e6w n at_ x,x.g0k at_ y/\b.a4k y=true/\b.for y/\∀ (i:Nat) r d,at_<=i->b.rehs[i]?=some r->y.l[i]?=some d->d=9\/(r.fr<=d/\d<=r.til)
 | 0,at_,x,hn,hx=>by
  simp only [PBook.e6w]
  have hat:at_=b.rehs.length:=hn
  cases hp:b.a4k x with
  | false=>simp
  | true =>
   simp only [if_true,List.pairwise_cons,List.not_mem_nil,false_implies,implies_true,List.Pairwise.nil,and_self,true_and,List.mem_singleton,forall_eq]
   refine ⟨⟨rfl,fun j d hj hd=>by have:=hx j d hd hj;omega⟩,hp,fun i d hd hi=>hx i d hd (by omega),fun i r d hi hr _=>?_⟩
   have:=(List.getElem?_eq_some_iff.1 hr).1
   omega
 | n+1,at_,x,hn,hx=>by
  have hr3:=hs.r3
  have hd5:=hs.st.d5
  obtain ⟨r,hr⟩:∃ r,b.rehs[at_]?=some r:=⟨_,List.getElem?_eq_getElem (by omega)⟩
  obtain ⟨r1,r2,r3, -⟩:=hs.rh r (List.mem_of_getElem? hr)
  have hx':∀ d,∀ (i:Nat) e,(x.put at_ d).l[i]?=some e->at_+1<=i->e=9:=fun d i e he hi=>by
   rw [D3.f1j _ _ _ _ (by omega),if_neg (by omega)] at he
   exact hx i e he (by omega)
  have ih:=fun d=>g0j b hs n (at_+1) (x.put at_ d) (by omega) (hx' d)
  have hm:(r.many:Int)=r.til - r.fr+1:=by simp only [Reh.many];omega
  have up:∀ d,0<=d/\d<=9->(d=9\/(r.fr<=d/\d<=r.til))->∀ y∈b.e6w n (at_+1) (x.put at_ d),(x.g0k at_ y/\y.l[at_]?=some d)/\b.a4k y=true/\b.for y/\∀ (i:Nat) r d,at_<=i->b.rehs[i]?=some r->y.l[i]?=some d->d=9\/(r.fr<=d/\d<=r.til):=fun d hd hok y hy=>by
   obtain ⟨q1,q2,q3,q4⟩:=(ih d).2 y hy
   obtain ⟨p1,p2⟩:=g0P (by omega) hd q1
   refine ⟨⟨p1,p2⟩,q2,q3,fun i r' e hi hr' he=>?_⟩
   by_cases hia:i=at_
   ·subst hia;rw [hr] at hr';cases hr';rw [p2] at he;cases he;exact hok
   ·exact q4 i r' e (by omega) hr' he
  simp only [PBook.e6w,hr]
  constructor
  ·refine List.pairwise_append.2 ⟨?_,(ih 9).1,?_⟩
   ·refine g0z _ r.many (fun j hj=>(ih _).1) (fun j k hjk hk y hy z hz=>?_) r.many (Nat.le_refl _)
    have u1:=(up (r.fr+j) (by omega) (.inr (by omega)) y hy).1
    have u2:=(up (r.fr+k) (by omega) (.inr (by omega)) z hz).1
    exact g0O (by omega) u1.1 u2.1 u1.2 u2.2 (by omega)
   ·intro y hy z hz
    obtain ⟨j,hj, -,hyj⟩:=g0g.1 hy
    have u1:=(up (r.fr+j) (by omega) (.inr (by omega)) y hyj).1
    have u2:=(up 9 (by omega) (.inl rfl) z hz).1
    exact g0O (by omega) u1.1 u2.1 u1.2 u2.2 (by omega)
  ·intro y hy
   rcases List.mem_append.1 hy with hy|hy
   ·obtain ⟨j,hj, -,hyj⟩:=g0g.1 hy
    have u1:=up (r.fr+j) (by omega) (.inr (by omega)) y hyj
    exact ⟨u1.1.1,u1.2⟩
   ·have u1:=up 9 (by omega) (.inl rfl) y hy
    exact ⟨u1.1.1,u1.2⟩
theorem g0Q {b:PBook} {x:D3} (h:b.f8W x=true) (i:Nat) (hi:i<3):b.okAt x i=true:=by
 simp only [PBook.f8W,Bool.and_eq_true] at h
 have:i=0\/i=1\/i=2:=by omega
 rcases this with rfl|rfl|rfl
 ·exact h.1.1
 ·exact h.1.2
 ·exact h.2
theorem g0y {b:PBook} (hs:PSane b) {x:D3} (h:b.a4k x=true):b.f8W x=true:=by
 rw [f9w b hs,Bool.and_eq_true] at h;exact h.1
theorem g0F {b:PBook} (hs:PSane b) {x:D3} (h:b.a4k x=true) {i:Nat} {r:Reh} {d:Int} (hi:i<3) (hd:x.l[i]?=some d):d=9\/∃ r,b.rehs[i]?=some r/\(r.fr<=d/\d<=r.til)/\(x.l.take i).contains d=false:=by
 have hk:=g0Q (g0y hs h) i hi
 simp only [PBook.okAt,hd,Bool.or_eq_true,decide_eq_true_eq,Bool.and_eq_true,Bool.not_eq_true'] at hk
 rcases hk with hk|⟨⟨h1, -⟩,h3⟩
 ·exact .inl hk
 ·right
  cases hy:b.rehs[i]? with
  | none=>rw [hy] at h1;cases h1
  | some y =>
   rw [hy] at h1
   have:=within_iff.1 h1
   exact ⟨y,rfl,by omega,h3⟩
theorem g0r (b:PBook) (hs:PSane b) (y:D3) (hp:b.a4k y=true) (hf:b.for y):∀ (n at_:Nat) (x:D3),at_+n=b.rehs.length->(∀ (i:Nat) d,x.l[i]?=some d->at_<=i->d=9)->y.l.take at_=x.l.take at_->y∈b.e6w n at_ x
 | 0,at_,x,hn,hx,ht=>by
  have hat:at_=b.rehs.length:=hn
  have:y=x:=D3.g0R (by
   apply List.ext_getElem?
   intro i
   by_cases hi:i<at_
   ·have:=congrArg (fun l=>l[i]?) ht
    simpa [List.getElem?_take,hi] using this
   ·by_cases h3:i<3
    ·obtain ⟨a,ha⟩:∃ a,y.l[i]?=some a:=⟨_,List.getElem?_eq_getElem h3⟩
     obtain ⟨c,hc⟩:∃ c,x.l[i]?=some c:=⟨_,List.getElem?_eq_getElem h3⟩
     rw [ha,hc,hf i a ha (by omega),hx i c hc (by omega)]
    ·rw [List.getElem?_eq_none (show y.l.length<=i from by show 3<=i;omega),List.getElem?_eq_none (show x.l.length<=i from by show 3<=i;omega)])
  subst this
  simp [PBook.e6w,hp]
 | n+1,at_,x,hn,hx,ht=>by
  have hr3:=hs.r3
  obtain ⟨r,hr⟩:∃ r,b.rehs[at_]?=some r:=⟨_,List.getElem?_eq_getElem (by omega)⟩
  obtain ⟨r1,r2,r3, -⟩:=hs.rh r (List.mem_of_getElem? hr)
  obtain ⟨d,hd⟩:∃ d,y.l[at_]?=some d:=⟨_,List.getElem?_eq_getElem (show at_<3 by omega)⟩
  have ih:=g0r b hs y hp hf n (at_+1) (x.put at_ d) (by omega) (fun i e he hi=>by
   rw [D3.f1j _ _ _ _ (by omega),if_neg (by omega)] at he
   exact hx i e he (by omega)) (by
   have hxd:(x.put at_ d).l[at_]?=some d:=by rw [D3.f1j _ _ _ _ (by omega),if_pos rfl]
   rw [take_snoc hd,take_snoc hxd,ht,D3.f2R])
  simp only [PBook.e6w,hr,List.mem_append]
  rcases g0F (r:=r) hs hp (by omega) hd with rfl|⟨r',hr',hw,htk⟩
  ·exact .inr ih
  ·rw [hr] at hr'
   cases hr'
   left
   refine g0g.2 ⟨(d - r.fr).toNat,by simp only [Reh.many];omega,?_,?_⟩
   ·rw [show r.fr+((d - r.fr).toNat:Int)=d by omega, ← ht];exact htk
   ·rw [show r.fr+((d - r.fr).toNat:Int)=d by omega];exact ih
theorem g0s {b:PBook} (hs:PSane b):b.plans.Pairwise (fun y z=>y.val<z.val)/\∀ y,y∈b.plans<->b.a4k y=true/\b.for y:=by
 have h:=g0j b hs b.rehs.length 0 e6u (by omega) (fun i d hd _=>e8M i d hd)
 refine ⟨h.1,fun y=>⟨fun hy=>⟨(h.2 y hy).2.1,(h.2 y hy).2.2.1⟩,fun ⟨hp,hf⟩=>g0r b hs y hp hf _ 0 e6u (by omega) (fun i d hd _=>e8M i d hd) rfl⟩⟩
theorem g0L {b:PBook} (hs:PSane b) {y:D3} (hy:y∈b.plans) {i:Nat} {r:Reh} {d:Int} (hr:b.rehs[i]?=some r) (hd:y.l[i]?=some d):d=9\/(r.fr<=d/\d<=r.til) :=
 ((g0j b hs b.rehs.length 0 e6u (by omega) (fun i d hd _=>e8M i d hd)).2 y hy).2.2.2 i r d (Nat.zero_le _) hr hd
/-! ### The best one -/
theorem e0u {b:PBook} {x y:D3}:b.better x y=true<->y.holds<x.holds\/(x.holds=y.holds/\b.keeps x<b.keeps y):=by
 simp [PBook.better]
theorem g0i {b:PBook} {x y:D3}:b.better x y=false<->¬ (y.holds<x.holds\/(x.holds=y.holds/\b.keeps x<b.keeps y)):=by
 rw [← e0u,Bool.not_eq_true]
theorem g0m (b:PBook):∀ (l m:List D3) (x:D3),(∃ l1 l2,m=l1++x::l2/\(∀ y∈l1,b.better x y=true)/\∀ y∈l2,b.better y x=false) →
 ∃ z,l.foldl b.pick (some x)=some z/\∃ l1 l2,m++l=l1++z::l2/\(∀ y∈l1,b.better z y=true)/\∀ y∈l2,b.better y z=false
 | [],m,x,h=>⟨x,rfl,by simpa using h⟩
 | w::l,m,x,⟨l1,l2,e,h1,h2⟩=>by
  simp only [List.foldl_cons,PBook.pick]
  cases hc:b.better w x with
  | true =>
   simp only [if_true]
   have h3:∀ y∈m,b.better w y=true:=fun y hy=>by
    rw [e0u] at hc ⊢
    rw [e] at hy
    rcases List.mem_append.1 hy with hy|hy
    ·have:=e0u.1 (h1 y hy);omega
    ·rcases List.mem_cons.1 hy with rfl|hy
     ·exact hc
     ·have:=g0i.1 (h2 y hy);omega
   obtain ⟨z,hz,k1,k2,e2,q1,q2⟩:=g0m b l (m++[w]) w ⟨m,[],rfl,h3,by simp⟩
   exact ⟨z,hz,k1,k2,by simpa using e2,q1,q2⟩
  | false =>
   simp only [Bool.false_eq_true,if_false]
   obtain ⟨z,hz,k1,k2,e2,q1,q2⟩:=g0m b l (m++[w]) x ⟨l1,l2++[w],by simp [e],h1,fun y hy=>by
    rcases List.mem_append.1 hy with hy|hy
    ·exact h2 y hy
    ·simp at hy;subst hy;exact hc⟩
   exact ⟨z,hz,k1,k2,by simpa using e2,q1,q2⟩
theorem g0J {b:PBook} (hs:PSane b):match b.best with
 | none=>b.plans=[]
 | some x=>x∈b.plans/\∀ y∈b.plans,b.better y x=false/\(b.better x y=false->x.val<=y.val):=by
 have hpw:=(g0s hs).1
 unfold PBook.best PBook.e7x
 cases hl:b.plans with
 | nil=>rfl
 | cons w l =>
  rw [hl] at hpw
  obtain ⟨z,hz,l1,l2,e,h1,h2⟩:=g0m b l [w] w ⟨[],[],rfl,by simp,by simp⟩
  have hz':(w::l).foldl b.pick none=some z:=hz
  rw [hz']
  simp only [List.cons_append,List.nil_append] at e
  rw [e] at hpw ⊢
  refine ⟨by simp,fun y hy=>?_⟩
  rcases List.mem_append.1 hy with hy|hy
  ·have hb:=h1 y hy
   have hb2:=e0u.1 hb
   exact ⟨g0i.2 (by omega),fun h=>by rw [hb] at h;cases h⟩
  ·rcases List.mem_cons.1 hy with rfl|hy
   ·exact ⟨g0i.2 (by omega),fun _=>Int.le_refl _⟩
   ·refine ⟨h2 y hy,fun _=>?_⟩
    have:=(List.pairwise_cons.1 (List.pairwise_append.1 hpw).2.1).1 y hy
    omega
end Go.Pm.St
