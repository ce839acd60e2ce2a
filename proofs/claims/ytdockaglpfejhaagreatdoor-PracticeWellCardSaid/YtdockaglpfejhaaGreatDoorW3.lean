/- The plain machine, part 3. -/
import Derived.Test.YtdockaglpfejhaaGreatDoorW2
import Derived.Laws.MakeOwn
import Derived.Laws.IdiomRangeMap
import Derived.RangeFuncRecord
import Derived.OrdersIn
import Derived.LoopNIn
import Derived.Maps.RangeRun
set_option linter.all false
set_option maxRecDepth 100000
namespace Go.Pm
section
variable {S:Seat} {G:List Nat} {g g' g'':Gh} {nt:Nat} {s s' s'':St} {a a' a'':Act} {w w' w'':World} {h:List Obj} {base:Nat} {v:V} {ws:List (Nat × Obj)} {takes:List Nat}
theorem a3v {h:List Obj} {r:Nat} (e:a1z h r=true):h[r]?=some .free:=by
 unfold a1z at e
 split at e
 ·assumption
 ·cases e
theorem b1h {x:Value} (ht:RT S g w v x) (hn:0<v.cells.length):v.cells.length=x.cells.size/\∀ (j:Nat) c y,v.cells[j]?=some c->x.cells[j]?=some y->RO S g w c y:=by
 cases ht with
 | rv _ _ h=>exact ⟨(a9g h hn).1,fun j c y h1 h2=>.rc _ _ ((a9g h hn).2 j c y h1 h2)⟩
 | none es=>exact absurd hn (by simp [V.cells])
 | own p es l b off cap ho =>
  cases p with
  | true=>exact absurd hn (by simp [V.cells])
  | false =>
   refine ⟨rfl,fun j c y h1 h2=>?_⟩
   rcases j with _|j
   ·simp [V.cells] at h1
    simp [Value.cells] at h2
    subst h1;subst h2
    exact .own _ _ _ _ _ ho
   ·simp [V.cells] at h1
theorem b3v {c:C} {y:Value} (h:RO S g w c y):y.oneCell'=true:=by
 cases h with
 | rc _ _ h=>cases h<;>rfl
 | own=>rfl
theorem b1g (hR:Rel S G g nt s a w) {x:Rand} {x':Operand} (h1:MT S G x x') {j:Nat} {es:Nat} {l:List (List C)} (hj:(rd S.Γ s.t x).cells[j]?=some (.own false es l)) {y:Value} (hy:(a.eval x').cells[j]?=some y) :
 j=0/\∃ i∈x.takes,∀ b,(∃ ad n cap,y=.slice (some ad) n cap/\ad.block=b)->a0S s.t a.tmps i b:=by
 cases h1 with
 | r _ _ h =>
  have hv:=a0M hR h
  exfalso
  generalize hrd:rd S.Γ s.t x=rv at hv hj
  generalize hev:a.eval x'=ev at hv
  cases hv with
  | top=>simp [V.cells] at hj
  | sc c _ h =>
   have hc:V.cells (.sc c)=[c]:=by cases c<;>first|rfl|exact absurd rfl h.a8Q|exact absurd rfl (h.a2a _ _ _)
   rw [hc] at hj
   rcases j with _|j
   ·simp at hj;exact h.a2a _ es l hj
   ·simp at hj
  | agg cs vals hs hr =>
   have hlt:j<vals.size:=by rw [← hs];exact (List.getElem?_eq_some_iff.1 hj).1
   exact (hr j _ _ hj (Array.getElem?_eq_getElem hlt)).a2a _ es l rfl
  | tup=>simp [V.cells] at hj
 | tk i =>
  have ht:=hR.tm i
  have hrd:rd S.Γ s.t (.tk i)=get s.t i:=rfl
  have hev:a.eval (.tmp i)=a.tmps.getD i undef:=rfl
  rw [hrd] at hj
  rw [hev] at hy
  generalize hv:get s.t i=v at ht hj
  generalize hx:a.tmps.getD i undef=x at ht hy
  cases ht with
  | rv _ _ h =>
   exfalso
   cases h with
   | top=>simp [V.cells] at hj
   | sc c _ h =>
    have hc:V.cells (.sc c)=[c]:=by cases c<;>first|rfl|exact absurd rfl h.a8Q|exact absurd rfl (h.a2a _ _ _)
    rw [hc] at hj
    rcases j with _|j
    ·simp at hj;exact h.a2a _ es l hj
    ·simp at hj
   | agg cs vals hs hr =>
    have hlt:j<vals.size:=by rw [← hs];exact (List.getElem?_eq_some_iff.1 hj).1
    exact (hr j _ _ hj (Array.getElem?_eq_getElem hlt)).a2a _ es l rfl
   | tup=>simp [V.cells] at hj
  | none es=>simp [V.cells] at hj
  | own p es' l' b off cap ho =>
   rcases j with _|j
   ·simp [Value.cells] at hy
    subst hy
    refine ⟨rfl,i,by simp [Rand.takes],?_⟩
    rintro c ⟨ad,n,cap',e,rfl⟩
    exact ⟨p,es',l',ad,n,cap',hv,by rw [hx];exact e,rfl⟩
   ·cases p<;>simp [V.cells] at hj
theorem b9Z (hR:Rel S G g nt s a w) {p:Nat} {x:Rand} {x':Operand} {t:TypeId} (h1:MT S G x x') (hp:s.h[p]?=some .free) :
 Goes S G nt g (g.with p w.heap.size) s { t:=drop x.takes s.t,h:=s.h.set p (.var (rd S.Γ s.t x).cells) } a a w (w.alloc (.cells (a.eval x').cells t)):=by
 have hrt:=b6Q hR h1
 have hle:g.Le (g.with p w.heap.size):=by
  refine ⟨fun r h=>.inr h,fun r h=>?_,fun _ _ _ h=>h,fun _ _ h=>h⟩
  have hne:r≠p:=by
   rintro rfl
   obtain ⟨o,ho,hf⟩:=hR.hp.as r h
   rw [hp] at ho
   simp only [Option.some.injEq] at ho
   subst ho
   simp [a6U] at hf
  simp [Gh.with,hne]
 refine Goes.born (takes:=x.takes) (off0:=0) hR hp rfl ⟨_,t,heap_alloc_new _ _,?_,fun j c y h2 h3=>?_⟩ ?_
 ·by_cases hn:0<(rd S.Γ s.t x).cells.length
  ·exact Nat.le_of_eq (b1h hrt hn).1
  ·omega
 ·have hn:0<(rd S.Γ s.t x).cells.length:=by have:=(List.getElem?_eq_some_iff.1 h2).1;omega
  have:=(b1h hrt hn).2 j c y h2 h3
  cases this with
  | rc _ _ h=>exact .rc _ _ (h.mono hle)
  | own es l b off cap ho=>exact .own _ _ _ _ _ (ho.mono hle (a8K _ _ _ ho.lt) (fun _=>rfl))
 ·rintro j b ⟨cs,es,l,vals,elem,fr,ad,n,cap,e1,e2,e3,e4,rfl⟩
  have hplt:p<s.h.length:=(List.getElem?_eq_some_iff.1 hp).1
  simp [hplt] at e1
  subst e1
  have hσ:(g.with p w.heap.size).σ p=w.heap.size:=by simp [Gh.with]
  rw [hσ,heap_alloc_new] at e3
  simp only [Option.some.injEq,Obj.cells.injEq] at e3
  obtain ⟨rfl,rfl,rfl⟩:=e3
  obtain ⟨h0,i,hi,hcl⟩:=b1g hR h1 e2 e4
  exact ⟨h0,i,hi,hcl _ ⟨ad,n,cap,rfl,rfl⟩⟩
theorem b6i {p:Nat}:RV S (g.with p w.heap.size) (.sc (.ptr p 0)) (.pointer (some ⟨w.heap.size,0,none⟩)):=by
 have hσ:(g.with p w.heap.size).σ p=w.heap.size:=by simp [Gh.with]
 have:=RC.ptr (S:=S) (g:=g.with p w.heap.size) p 0 (.inl rfl)
 rw [hσ] at this
 exact .sc _ _ this
theorem b8A (hR:Rel S G g nt s a w) {n:Nat} {x:Rand} {x':Operand} {t:TypeId} (h1:MT S G x x') (e:eff base s.h (rd S.Γ s.t) (.box n x)=some (v,ws)) :
 Does S G nt g s a w (.box t x') x.takes v (a0I s.h ws):=by
 simp only [eff] at e
 split at e
 ·rename_i hc
  simp only [Option.some.injEq,Prod.mk.injEq] at e
  obtain ⟨rfl,rfl⟩:=e
  exact fun o' ho'=>⟨_,_,_,_,by simp only [execOp,ho',Instr.box,newVar,newRow,newObj,Sem.run_bind,Sem.run,Result.andThen_ok,Sem.run_pure,World.alloc_eq],.inl rfl,b9Z (t:=t) hR h1 (a3v hc),.rv _ _ b6i⟩
 ·cases e
theorem b6p (hR:Rel S G g nt s a w) {n:Nat} {z:List C} {t:TypeId} (hz:a5G S.P t z) (e:eff base s.h (rd S.Γ s.t) (.alloc n z)=some (v,ws)) :
 Does S G nt g s a w (.alloc t) [] v (a0I s.h ws):=by
 simp only [eff] at e
 split at e
 ·rename_i hc
  simp only [Option.some.injEq,Prod.mk.injEq] at e
  obtain ⟨rfl,rfl⟩:=e
  obtain ⟨i,zv,hi,hzv,hzl,hzr⟩:=hz
  have hp:=a3v hc.1
  refine fun o' ho'=>⟨_,_,w.alloc (.cells zv.cells t),_,by simp [execOp,ho',Instr.alloc,a3B hi hzv,newVar,newRow,newObj,Sem.run,World.alloc_eq],.inl rfl,
   Goes.born (takes:=[]) (off0:=0) hR hp rfl ⟨_,t,heap_alloc_new _ _,Nat.le_of_eq (by simpa using hzl),fun j c y h2 h3=>.rc _ _ (hzr j c y h2 (by simpa using h3)).rc⟩ ?_,.rv _ _ b6i⟩
  rintro j b ⟨cs,es,l,vals,elem,fr,ad,m,cap,e1,e2,e3,e4,rfl⟩
  have hplt:base+n<s.h.length:=(List.getElem?_eq_some_iff.1 hp).1
  simp [hplt] at e1
  subst e1
  exact absurd (a2d hc.2 e2) (by simp [C.pure])
 ·cases e
theorem a9S (hR:RelH S G g h w) {r j:Nat} {cs:List C} {es:Nat} {l:List (List C)} {vals:Array Value} {elem:TypeId} {y:Value} (hr:h[r]?=some (.var cs)) (hj:cs[j]?=some (.own false es l))
 (hb:w.heap[g.σ r]?=some (.cells vals elem (0,0))) (hy:vals[j]?=some y):∃ b off cap,y=.slice (some ⟨b,off,none⟩) l.length cap/\OwnAt S g w false es l b off cap/\a1e g h w r j b:=by
 obtain ⟨vals',elem',hb',hs,hro⟩:=hR.ob r _ hr
 rw [hb] at hb'
 simp only [Option.some.injEq,Obj.cells.injEq] at hb'
 obtain ⟨rfl,rfl,_⟩:=hb'
 have:=hro j _ _ hj hy
 cases this with
 | rc _ _ h=>exact absurd rfl (h.a2a _ es l)
 | own es l b off cap ho=>exact ⟨b,off,cap,rfl,ho,cs,es,l,vals,elem,(0,0),_,_,_,hr,hj,hb,hy,rfl⟩
theorem b6B (hR:Rel S G g nt s a w) {x:Rand} {x':Operand} {t:TypeId} (h1:MR S G x x') (hs:TSh S.P t none) (e:eff base s.h (rd S.Γ s.t) (.loadT x)=some (v,ws)) :
 Does S G nt g s a w (.load t x') [] v (a0I s.h ws):=by
 have hx:=a0M hR h1
 simp only [eff] at e
 split at e
 ·rename_i p off hp
  rw [hp] at hx
  obtain ⟨hA,hx⟩:=hx.a3J
  split at e
  ·rename_i cs hcs
   split at e
   ·rename_i c hc
    simp only [Option.some.injEq,Prod.mk.injEq] at e
    obtain ⟨rfl,rfl⟩:=e
    obtain ⟨vals,elem,hb,hsz,hro⟩:=hR.hp.ob p _ hcs
    have hlt:off<cs.length:=(List.getElem?_eq_some_iff.1 hc).1
    have hlt':off<vals.size:=by omega
    have hy:=hro off c _ hc (Array.getElem?_eq_getElem hlt')
    obtain ⟨d,hd,hag⟩:=hs
    have hcell:w.cell? ⟨g.σ p,off,none⟩=some vals[off]:=by rw [cell_of_heap hb,Array.getElem?_eq_getElem hlt']
    have hplt:p<s.h.length:=(List.getElem?_eq_some_iff.1 hcs).1
    have hnc:∀ j b,a1e g (s.h.set p (.var (cs.set off (Pm.a0r c)))) w p j b->a1e g s.h w p j b/\j≠off:=by
     rintro j b ⟨cs',es,l,vals',elem',fr,ad,m,cap,e1,e2,e3,e4,rfl⟩
     simp [hplt] at e1
     subst e1
     by_cases hj:j=off
     ·subst hj
      simp [hlt] at e2
      cases c with
      | own q _ _=>cases q<;>simp [Pm.a0r] at e2
      | _=>simp [Pm.a0r] at e2
     ·rw [List.getElem?_set_ne (fun h=>hj h.symm)] at e2
      exact ⟨⟨cs,es,l,vals',elem',fr,ad,m,cap,hcs,e2,e3,e4,rfl⟩,hj⟩
    have hgo:Goes S G nt g g s { t:=drop [] s.t,h:=s.h.set p (.var (cs.set off (Pm.a0r c))) } a a w w:=by
     refine Goes.modify (takes:=[]) (off0:=0) hR hcs rfl rfl (fun _ _=>rfl) rfl rfl rfl rfl ⟨vals,elem,hb,by simpa using hsz,fun j c' y h2 h3=>?_⟩ (fun j b hcl=>.inl (hnc j b hcl).1)
     ·by_cases hj:j=off
      ·subst hj
       simp [hlt] at h2
       subst h2
       rw [Array.getElem?_eq_getElem hlt'] at h3
       cases h3
       exact .rc _ _ hy.a0r
      ·rw [List.getElem?_set_ne (fun h=>hj h.symm)] at h2
       exact hro j c' y h2 h3
    refine fun o' ho'=>⟨vals[off],_,w,g,by simp [execOp,ho',hx,Instr.loadAt,Instr.sureAddr,loadVar,a5h hd,hag,hcell],.inl rfl,hgo,?_⟩
    have hyo:=Array.getElem?_eq_getElem hlt'
    generalize hyv:vals[off]=y at hy hyo
    cases hy with
    | rc _ _ h=>exact .rv _ _ (.sc _ _ h)
    | own es l b o cap ho =>
     have hcl:a1e g s.h w p off b:=⟨cs,es,l,vals,elem,(0,0),_,_,_,hcs,hc,hb,hyo,rfl⟩
     refine .own _ _ _ _ _ _ ho ⟨fun i hi=>hR.exTH i b p off hi.a2X.1 hcl,fun r j hj=>?_,fun r o1 e1 hl=>?_⟩ (fun _=>.inl (.inr ⟨p,off,hcl⟩))
     ·by_cases hr:r=p
      ·subst hr
       obtain ⟨h2,h3⟩:=hnc j b hj
       exact h3 (hR.hp.ex r j r off b h2 hcl).2
      ·obtain ⟨cs',es',l',vals',elem',fr,ad,m,cap',e1,e2,e3,e4,e5⟩:=hj
       have e1':s.h[r]?=some (.var cs'):=by rw [← a5p hr];exact e1
       exact hr (hR.hp.ex r j p off b ⟨cs',es',l',vals',elem',fr,ad,m,cap',e1',e2,e3,e4,e5⟩ hcl).1
     ·rcases a3H e1 with ⟨rfl,rfl,_⟩|⟨hr,e1⟩
      ·exact hR.hp.cl r off b r _ hcl hcs rfl
      ·exact hR.hp.cl p off b r o1 hcl e1 hl
   ·cases e
  ·cases e
 ·cases e
theorem b6c (l vs:List Value) (o j:Nat) (h:o+vs.length<=l.length) :
 (l.take o++vs++l.drop (o+vs.length))[j]?=if o<=j/\j<o+vs.length then vs[j - o]? else l[j]?:=by
 have h1:(l.take o).length=o:=by simp;omega
 by_cases hj:j<o
 ·rw [if_neg (by omega),List.append_assoc,List.getElem?_append_left (by omega),List.getElem?_take,if_pos hj]
 ·by_cases hj2:j<o+vs.length
  ·rw [if_pos ⟨by omega,hj2⟩,List.append_assoc,List.getElem?_append_right (by omega),h1,List.getElem?_append_left (by omega)]
  ·rw [if_neg (by omega),List.append_assoc,List.getElem?_append_right (by omega),h1,List.getElem?_append_right (by omega),List.getElem?_drop]
   congr 1;omega
theorem b0P {b:Nat} {cs:Array Value} {b':Nat} (h:b'≠b):(w.setRow b cs).heap[b']?=w.heap[b']?:=by
 simp only [World.setRow,Array.getElem?_modify]
 rw [if_neg (fun e=>h e.symm)]
theorem b6Y (hR:Rel S G g nt s a w) {n:Nat} {x y:Rand} {x' y':Operand} {t:TypeId} (h1:MR S G x x') (h2:MT S G y y') (hs:a3o S.P t n) (e:eff base s.h (rd S.Γ s.t) (.store n x y)=some (v,ws)) :
 Does S G nt g s a w (.store t x' y') y.takes v (a0I s.h ws):=by
 have hx:=a0M hR h1
 have hy:=b6Q hR h2
 simp only [eff] at e
 split at e
 ·rename_i p off hp
  rw [hp] at hx
  obtain ⟨hA,hx⟩:=hx.a3J
  split at e
  ·rename_i cs hcs
   split at e
   ·rename_i hc
    obtain ⟨hn,hpos,hle⟩:=hc
    simp only [Option.some.injEq,Prod.mk.injEq] at e
    obtain ⟨rfl,rfl⟩:=e
    obtain ⟨vals,elem,hb,hsz,hro⟩:=hR.hp.ob p _ hcs
    obtain ⟨c1,c2⟩:=b1h hy (by omega)
    obtain ⟨i,hi,hisz⟩:=hs
    have hplt:p<s.h.length:=(List.getElem?_eq_some_iff.1 hcs).1
    have hsize:(a.eval y').cells.toList.length=n:=by simp [← c1,hn]
    have hst:=run_storeCells_at S.P (g.σ p) off elem (a.eval y').cells.toList 0 vals w hb (by rw [hsize];omega) (fun u hu=>by
     obtain ⟨j,hj⟩:=List.getElem?_of_mem hu
     rw [Array.getElem?_toList] at hj
     have hjl:j<(rd S.Γ s.t y).cells.length:=by rw [c1];exact (Array.getElem?_eq_some_iff.1 hj).1
     exact b3v (c2 j _ u (List.getElem?_eq_getElem hjl) hj))
    have hle2:off+(a.eval y').cells.toList.length<=vals.toList.length:=by rw [hsize];simp;omega
    have hsv:(storeVar t ⟨g.σ p,off,none⟩ (a.eval y')).run S.P w=.ok () (w.setRow (g.σ p) (vals.toList.take (off+0)++(a.eval y').cells.toList++vals.toList.drop (off+0+(a.eval y').cells.toList.length)).toArray):=by
     have hnn:¬ ((a.eval y').cells.size≠n):=by simp [← c1,hn]
     simp only [storeVar,Sem.run_bind,a1u hi,hisz,Result.andThen_ok,if_neg hnn]
     exact hst
    refine fun o' ho'=>⟨undef,.skip,w.setRow (g.σ p) (vals.toList.take (off+0)++(a.eval y').cells.toList++vals.toList.drop (off+0+(a.eval y').cells.toList.length)).toArray,g,
     by simp only [execOp,ho',hx,Instr.storeAt,Instr.sureAddr,Sem.run_bind,Sem.run_pure,Result.andThen_ok,hsv],.inr ⟨rfl,rfl⟩,?_,.rv _ _ (.tup [] #[] rfl fun j v w a b=>by simp at a)⟩
    have hget:∀ j,(vals.toList.take (off+0)++(a.eval y').cells.toList++vals.toList.drop (off+0+(a.eval y').cells.toList.length)).toArray[j]?=if off<=j/\j<off+n then (a.eval y').cells[j - off]? else vals[j]?:=fun j=>by
     rw [Nat.add_zero,List.getElem?_toArray,b6c _ _ _ _ hle2,hsize]
     simp
    have hgetc:∀ j,(a1H cs off (rd S.Γ s.t y).cells)[j]?=if off<=j/\j<off+n then (rd S.Γ s.t y).cells[j - off]? else cs[j]?:=fun j=>by
     rw [a7z _ _ _ _ (by omega),hn]
    have hne:∀ b',b'≠g.σ p->(w.setRow (g.σ p) (vals.toList.take (off+0)++(a.eval y').cells.toList++vals.toList.drop (off+0+(a.eval y').cells.toList.length)).toArray).heap[b']?=w.heap[b']?:=fun b' h=>b0P h
    have hnew:=setRow_heap w (g.σ p) vals (vals.toList.take (off+0)++(a.eval y').cells.toList++vals.toList.drop (off+0+(a.eval y').cells.toList.length)).toArray elem (0,0) hb
    have hroN:∀ {c u},(∀ es l,c=.own false es l->∀ b o cap,u=.slice (some ⟨b,o,none⟩) l.length cap->b≠g.σ p)->RO S g w c u →
     RO S g (w.setRow (g.σ p) (vals.toList.take (off+0)++(a.eval y').cells.toList++vals.toList.drop (off+0+(a.eval y').cells.toList.length)).toArray) c u:=by
     intro c u hb' h
     cases h with
     | rc _ _ h=>exact .rc _ _ h
     | own es l b o cap ho=>exact .own _ _ _ _ _ (ho.mono (.refl g) (hne b (hb' es l rfl b o cap rfl)) (fun _=>rfl))
    refine Goes.modify (takes:=y.takes) (off0:=off) hR hcs rfl rfl hne (by simp [World.setRow]) rfl rfl rfl ⟨_,elem,hnew,?_,fun j c u e1 e2=>?_⟩ ?_
    ·rw [a7r];simp at hle2 ⊢;omega
    ·rw [hgetc] at e1
     rw [hget] at e2
     split at e1
     ·rename_i hcj
      rw [if_pos hcj] at e2
      refine hroN (fun es l hc b o cap hu'=>?_) (c2 _ c u e1 e2)
      subst hc
      obtain ⟨_,i',hi',hcl⟩:=b1g hR h2 e1 e2
      exact fun hbb=>hR.clT i' b p _ (hcl b ⟨_,_,_,hu',rfl⟩) hcs rfl hbb.symm
     ·rename_i hcj
      rw [if_neg hcj] at e2
      refine hroN (fun es l hc b o cap hu'=>?_) (hro j c u e1 e2)
      subst hc
      exact fun hbb=>hR.hp.cl p j b p _ ⟨cs,es,l,vals,elem,(0,0),_,_,_,hcs,e1,hb,by rw [e2,hu'],rfl⟩ hcs rfl hbb.symm
    ·rintro j b ⟨cs',es,l,vals',elem',fr,ad,m,cap,e1,e2,e3,e4,rfl⟩
     simp [hplt] at e1
     subst e1
     rw [hnew] at e3
     simp only [Option.some.injEq,Obj.cells.injEq] at e3
     obtain ⟨rfl,rfl,rfl⟩:=e3
     rw [hgetc] at e2
     rw [hget] at e4
     split at e2
     ·rename_i hcj
      rw [if_pos hcj] at e4
      obtain ⟨h0,i',hi',hcl⟩:=b1g hR h2 e2 e4
      exact .inr ⟨by omega,i',hi',hcl _ ⟨ad,m,cap,rfl,rfl⟩⟩
     ·rename_i hcj
      rw [if_neg hcj] at e4
      exact .inl ⟨cs,es,l,vals,elem,(0,0),ad,m,cap,hcs,e2,hb,e4,rfl⟩
   ·cases e
  ·cases e
 ·cases e
end
end Go.Pm
namespace Go.Pm
theorem a2G {es:Nat}:∀ {l:List (List C)},(∀ e∈l,e.length=es)->l.flatten.length=l.length*es
 | [],_=>by simp
 | e::l,h=>by
  rw [List.flatten_cons,List.length_append,h e (by simp),a2G (fun x hx=>h x (by simp [hx])),List.length_cons,Nat.add_mul,Nat.one_mul,Nat.add_comm]
theorem flat_get {es:Nat}:∀ {l:List (List C)},(∀ e∈l,e.length=es)->∀ (i j:Nat),j<es->l.flatten[i*es+j]?=(l[i]?).bind fun e=>e[j]?
 | [],_,i,j,_=>by simp
 | e::l,h,0,j,hj=>by
  rw [List.flatten_cons,Nat.zero_mul,Nat.zero_add,List.getElem?_append_left (by rw [h e (by simp)];exact hj)]
  simp
 | e::l,h,i+1,j,hj=>by
  have he:e.length=es:=h e (by simp)
  rw [List.flatten_cons,List.getElem?_append_right (by rw [he,Nat.add_mul,Nat.one_mul];omega),he,show (i+1)*es+j - es=i*es+j from by rw [Nat.add_mul,Nat.one_mul];omega,
   flat_get (fun x hx=>h x (by simp [hx])) i j hj]
  simp
theorem b0y {es:Nat} {l:List (List C)} (h:∀ e∈l,e.length=es) (he:0<es) (k:Nat):l.flatten[k]?=(l[k / es]?).bind fun e=>e[k % es]?:=by
 have:=flat_get h (k / es) (k % es) (Nat.mod_lt _ he)
 rwa [Nat.div_add_mod'] at this
theorem b8U {es:Nat} {l:List (List C)} (h:∀ e∈l,e.length=es) (he:0<es) {i:Nat} {x:List C} (hi:i<l.length) (hx:x.length=es):(l.set i x).flatten=a1H l.flatten (i*es) x:=by
 have h':∀ e∈l.set i x,e.length=es:=fun e hm=>by
  rcases List.mem_or_eq_of_mem_set hm with h1|rfl
  ·exact h e h1
  ·exact hx
 have hle:i*es+x.length<=l.flatten.length:=by
  rw [a2G h,hx]
  have:=Nat.mul_le_mul_right es (show i+1<=l.length from hi)
  rw [Nat.add_mul,Nat.one_mul] at this
  exact this
 apply List.ext_getElem?
 intro k
 rw [b0y h' he,a7z _ _ _ _ hle,b0y h he,hx]
 have hk:k / es*es+k % es=k:=Nat.div_add_mod' k es
 have hm:=Nat.mod_lt k he
 by_cases hki:k / es=i
 ·subst hki
  rw [List.getElem?_set_self hi,if_pos (by omega)]
  simp only [Option.bind_some]
  congr 1;omega
 ·rw [List.getElem?_set_ne (fun e=>hki e.symm),if_neg]
  rintro ⟨h1,h2⟩
  apply hki
  have e1:i<=k / es:=(Nat.le_div_iff_mul_le he).2 h1
  have e2:k / es<i+1:=(Nat.div_lt_iff_lt_mul he).2 (by rw [Nat.add_mul,Nat.one_mul];exact h2)
  omega
section
variable {S:Seat} {G:List Nat} {g g' g'':Gh} {nt:Nat} {s s' s'':St} {a a' a'':Act} {w w' w'':World} {h:List Obj} {base:Nat} {v:V} {ws:List (Nat × Obj)} {takes:List Nat}
theorem a9x {es:Nat} (he:0<es):∀ (ps:List (Nat × V)) (parts:List (Nat × Value)) (l l':List (List C)) (vals:Array Value),(ps.map (·.1))=(parts.map (·.1)) →
 (∀ (j:Nat) p q,ps[j]?=some p->parts[j]?=some q->RV S g p.2 q.2)->(∀ e∈l,e.length=es)->Cells S g l.flatten vals->a2c es l ps=some l' →
 ∃ vals',Instr.fill (fun i=>some (i*es,es)) vals parts=some vals'/\Cells S g l'.flatten vals'/\(∀ e∈l',e.length=es)/\l'.length=l.length
 | [],parts,l,l',vals,hp,_,hl,hz,e=>by
  cases parts with
  | cons=>simp at hp
  | nil =>
   simp only [a2c,Option.some.injEq] at e
   subst e
   exact ⟨vals,rfl,hz,hl,rfl⟩
 | (i,v)::ps,parts,l,l',vals,hp,hr,hl,hz,e=>by
  cases parts with
  | nil=>simp at hp
  | cons q parts =>
   obtain ⟨i',x⟩:=q
   simp only [List.map_cons,List.cons.injEq] at hp
   obtain ⟨rfl,hp⟩:=hp
   simp only [a2c] at e
   split at e
   ·rename_i hc
    obtain ⟨hn,hi⟩:=hc
    have hv:RV S g v x:=hr 0 _ _ rfl rfl
    have hcl:=a9g hv (by omega)
    have hle:i*es+v.cells.length<=l.flatten.length:=by
     rw [a2G hl,hn]
     have:=Nat.mul_le_mul_right es (show i+1<=l.length from hi)
     rw [Nat.add_mul,Nat.one_mul] at this
     exact this
    have hset:=hz.set hcl hle
    rw [← b8U hl he hi hn] at hset
    obtain ⟨vals',h1,h2,h3,h4⟩:=a9x he ps parts _ l' _ hp (fun j p q a b=>hr (j+1) p q (by simpa using a) (by simpa using b)) (fun e hm=>by
     rcases List.mem_or_eq_of_mem_set hm with h1|rfl
     ·exact hl e h1
     ·exact hn) hset e
    refine ⟨vals',?_,h2,h3,by simpa using h4⟩
    have hsz:x.cells.size=es:=by rw [← hcl.1,hn]
    have:¬ ((x.cells.size≠es||decide (i*es+x.cells.size > vals.size))=true):=by
     rw [hsz]
     simp
     rw [← hz.1];omega
    simp only [Instr.fill,this]
    exact h1
   ·cases e
theorem b0V {z:List C} {zv:Array Value} (hz:KL z zv.toList) (n:Nat) (hpos:0<z.length):Cells S g (List.replicate n z).flatten ((Array.range (n*z.length)).map fun k=>zv[k % zv.size]!):=by
 have hsz:zv.size=z.length:=by simpa using hz.1.symm
 have hall:∀ e∈List.replicate n z,e.length=z.length:=fun e he=>by rw [List.eq_of_mem_replicate he]
 refine ⟨by rw [a2G hall];simp,fun k c x h1 h2=>?_⟩
 have hk:k<n*z.length:=by
  have:=(Array.getElem?_eq_some_iff.1 h2).1
  simpa using this
 rw [b0y hall hpos,List.getElem?_replicate,if_pos ((Nat.div_lt_iff_lt_mul hpos).2 hk)] at h1
 simp only [Option.bind_some] at h1
 have hm:k % zv.size<zv.size:=by rw [hsz];exact Nat.mod_lt _ hpos
 simp only [Array.getElem?_map] at h2
 rw [Array.getElem?_eq_getElem (by simpa using hk)] at h2
 simp [getElem!_pos zv (k % zv.size) hm] at h2
 subst h2
 refine (hz.2 (k % z.length) c _ h1 ?_).rc
 rw [← hsz,Array.getElem?_toList,Array.getElem?_eq_getElem hm]
def Gh.row (g:Gh) (b m:Nat) (vals:Array Value):Gh:={ g with M:=fun b' o=>if b'=b then (if o<m then vals[o]? else none) else g.M b' o }
theorem Grows.row (hR:RelH S G g h w) (w0:World) (hw:w0=w\/w0=w.drew) (vals:Array Value) (t:TypeId) (m:Nat):Grows g (g.row w.heap.size m vals) w (w0.alloc (.cells vals t)):=by
 have hh:w0.heap=w.heap:=by rcases hw with rfl|rfl<;>rfl
 have hsz:w0.heap.size=w.heap.size:=by rw [hh]
 refine ⟨⟨fun _ h=>h,fun _ _=>rfl,fun b o v e=>?_,fun _ _ h=>h⟩,fun _ h=>h,⟨by simp [hsz],fun b hb _=>by rw [a8K w0 _ b (by rw [hsz];exact hb),hh],?_,?_,?_⟩,fun b o v e=>?_,fun _ _ h=>.inl h⟩
 ·have hb:b≠w.heap.size:=by have:=M_lt hR e;omega
  simp [Gh.row,hb,e]
 ·rcases hw with rfl|rfl<;>rfl
 ·rcases hw with rfl|rfl<;>rfl
 ·rcases hw with rfl|rfl<;>rfl
 ·simp only [Gh.row] at e
  split at e
  ·rename_i hb
   subst hb
   split at e
   ·refine .inr ⟨Nat.le_refl _,?_⟩
    rw [cell_of_heap (by rw [← hsz];exact heap_alloc_new w0 _)]
    exact e
   ·cases e
  ·exact .inl e
theorem b0k {es:Nat} {l:List (List C)} {vals:Array Value} {k:SK} {cap b:Nat} (hl:∀ e∈l,e.length=es) (hp:∀ e∈l,C.a0v e=true)
 (hc:∀ (j:Nat) c,l.flatten[j]?=some c->∃ x,vals[j]?=some x/\RC S g c x) (hle:g.Le (g.row b (l.length*es) vals)) (hk:k≠.nil) (hf:k=.full->cap=l.length) (hcap:l.length<=cap) :
 RC S (g.row b (l.length*es) vals) (.sl k es l) (.slice (some ⟨b,0,none⟩) l.length cap):=by
 have key:∀ (i:Nat) (e:List C) (j:Nat),l[i]?=some e->j<es->∃ x c,vals[i*es+j]?=some x/\e[j]?=some c/\RC S g c x/\i*es+j<l.length*es:=fun i e j hi hj=>by
  have hlen:=hl e (List.mem_of_getElem? hi)
  have hfl:=flat_get hl i j hj
  have hej:e[j]?=some (e[j]'(by rw [hlen];exact hj)):=List.getElem?_eq_getElem _
  rw [hi,Option.bind_some,hej] at hfl
  obtain ⟨x,hx,hr⟩:=hc _ _ hfl
  refine ⟨x,_,hx,hej,hr,?_⟩
  have:=(List.getElem?_eq_some_iff.1 hfl).1
  rwa [a2G hl] at this
 refine .sl k es l b 0 cap (fun i j=>(vals[i*es+j]?).getD undef) hk hf hcap (fun i e hi=>hl e (List.mem_of_getElem? hi)) (fun i e hi=>hp e (List.mem_of_getElem? hi)) (fun i e j hi hj=>?_) (fun i e j c hi hj=>?_)
 ·obtain ⟨x,c,h1,_,_,h4⟩:=key i e j hi hj
  simp [Gh.row,h1,h4]
 ·have hjl:j<es:=by rw [← hl e (List.mem_of_getElem? hi)];exact (List.getElem?_eq_some_iff.1 hj).1
  obtain ⟨x,c',h1,h2,h3,_⟩:=key i e j hi hjl
  rw [hj] at h2
  cases h2
  simp only [h1,Option.getD_some]
  exact h3.mono hle
theorem a8F {es n:Nat} {z:List C} {ps:List (Nat × Rand)} {t e:TypeId} {ps':Array (Nat × Operand)} {l:List (List C)} (hR:Rel S G g nt s a w) (hu:S.P.underlying t=some (.slice e)) (hs:a3o S.P e es) (hz:a5G S.P e z)
 (hn:n*es<=2 ^ 24) (he:0<es) (hi:ps.map (·.1)=ps'.toList.map (·.1)) (hr:MRs S G (ps.map (·.2)) (ps'.toList.map (·.2))) (hzl:z.length=es)
 (hfill:a2c es (List.replicate n z) (ps.map fun p=>(p.1,rd S.Γ s.t p.2))=some l) :
 ∃ vals,(Instr.buildSlice t n (ps'.map fun p=>(p.1,a.eval p.2))).run S.P w=.ok (.slice (some ⟨w.heap.size,0,none⟩) n n) (w.alloc (.cells vals e))/\Cells S g l.flatten vals/\(∀ x∈l,x.length=es)/\l.length=n:=by
 obtain ⟨i,hi1,hisz⟩:=hs
 obtain ⟨i2,zv,hi2,hzv,hKL⟩:=hz
 have hz0:=b0V (S:=S) (g:=g) hKL n (by omega)
 rw [hzl] at hz0
 obtain ⟨vals,h1,h2,h3,h4⟩:=a9x (S:=S) (g:=g) he (ps.map fun p=>(p.1,rd S.Γ s.t p.2)) (ps'.toList.map fun p=>(p.1,a.eval p.2)) _ l _ (by simpa [List.map_map,Function.comp_def] using hi) (fun j p q h1 h2=>by
  simp only [List.getElem?_map,Option.map_eq_some_iff] at h1 h2
  obtain ⟨p0,hp0,rfl⟩:=h1
  obtain ⟨q0,hq0,rfl⟩:=h2
  exact b4N hR (fv:=fun p=>p.2) hr hp0 hq0) (fun x hx=>by rw [List.eq_of_mem_replicate hx,hzl]) hz0 hfill
 refine ⟨vals,?_,h2,h3,by rw [h4];simp⟩
 have hnn:¬ (n*es > 2 ^ 24):=by omega
 have hparts:(ps'.map fun p=>(p.1,a.eval p.2)).toList=ps'.toList.map fun p=>(p.1,a.eval p.2):=by simp
 by_cases hn0:n*es=0
 ·have hn':n=0:=by
   rcases Nat.mul_eq_zero.1 hn0 with h|h
   ·exact h
   ·omega
  subst hn'
  have hemp:∀ f:Nat->Value,(Array.range 0).map f=#[]:=fun f=>Array.ext' (by simp)
  rw [Nat.zero_mul,hemp] at h1
  simp only [Instr.buildSlice,Sem.run_bind,run_underlying hu,Result.andThen_ok,a1u hi1,hisz,hn0,if_true,hparts]
  simp only [hemp,h1]
  simp [newRow,newObj,Sem.run,World.alloc_eq]
 ·simp only [Instr.buildSlice,Sem.run_bind,run_underlying hu,Result.andThen_ok,a1u hi1,hisz,if_neg hnn,if_neg hn0,a3B hi2 hzv,Sem.run_pure,hparts,h1]
  simp [newRow,newObj,Sem.run,World.alloc_eq]
theorem b5j (hR:Rel S G g nt s a w) {es n:Nat} {z:List C} {ps:List (Nat × Rand)} {t e:TypeId} {ps':Array (Nat × Operand)} (hu:S.P.underlying t=some (.slice e)) (hs:a3o S.P e es) (hz:a5G S.P e z)
 (hn:n*es<=2 ^ 24) (he:0<es) (hi:ps.map (·.1)=ps'.toList.map (·.1)) (hr:MRs S G (ps.map (·.2)) (ps'.toList.map (·.2))) (ee:eff base s.h (rd S.Γ s.t) (.bslice es n z ps)=some (v,ws)) :
 Does S G nt g s a w (.buildSlice t n ps') [] v (a0I s.h ws):=by
 simp only [eff] at ee
 split at ee
 ·rename_i l hfill
  split at ee
  ·rename_i hc
   simp only [Option.some.injEq,Prod.mk.injEq] at ee
   obtain ⟨rfl,rfl⟩:=ee
   obtain ⟨vals,h1,h2,h3,h4⟩:=a8F hR hu hs hz hn he hi hr hc.1 hfill
   have hg:=Grows.row hR.hp w (.inl rfl) vals e (l.length*es)
   refine fun o' ho'=>⟨.slice (some ⟨w.heap.size,0,none⟩) n n,_,_,_,by simp only [execOp,ho',Sem.run_bind,h1,Result.andThen_ok,Sem.run_pure],.inl rfl,.grow hR hg,.rv _ _ (.sc _ _ ?_)⟩
   have:=b0k (S:=S) (k:=.full) (cap:=n) h3 (fun x hx=>List.all_eq_true.1 hc.2 x hx) (fun j c hj=>by
    have hlt:j<vals.size:=by rw [← h2.1];exact (List.getElem?_eq_some_iff.1 hj).1
    exact ⟨vals[j],Array.getElem?_eq_getElem hlt,h2.2 j c _ hj (Array.getElem?_eq_getElem hlt)⟩) hg.le (by simp) (fun _=>h4.symm) (by omega)
   rw [h4] at this
   rw [h4]
   exact this
  ·cases ee
 ·cases ee
theorem b4G (hR:Rel S G g nt s a w) {es n:Nat} {z:List C} {t e:TypeId} {i:TypeInfo} (hu:S.P.underlying t=some (.slice e)) (hi:S.P.info? e=some i) (hs:i.size=es) (hz:a5G S.P e z)
 (hn:n*es<=2 ^ 24) (he:0<es) (hb:i.bytes*n<=2 ^ 40) (ee:eff base s.h (rd S.Γ s.t) (.bslice es n z [])=some (v,ws)) :
 Does S G nt g s a w (.makeSlice t (.const (.int .i64 n)) (.const (.int .i64 n))) [] v (a0I s.h ws):=by
 simp only [eff,List.map_nil,a2c] at ee
 split at ee
 ·rename_i hc
  simp only [Option.some.injEq,Prod.mk.injEq] at ee
  obtain ⟨rfl,rfl⟩:=ee
  obtain ⟨i2,zv,hi2,hzv,hKL⟩:=hz
  have:i2=i:=Option.some.inj (hi2.symm.trans hi)
  subst this
  have hn2:n<=2 ^ 24:=Nat.le_trans (by have:=Nat.mul_le_mul_left n he;omega) hn
  have hbi:(i2.bytes:Int)*((n:Nat):Int)<=281474976710656:=by
   rw [← Int.natCast_mul]
   have:=Int.ofNat_le.2 hb
   omega
  have hrun:=run_make (P:=S.P) w t e i2 zv hu hi2 hzv .i64 .i64 n n (by omega) (by omega) hbi (by omega)
  simp only [Int.toNat_natCast] at hrun
  have h2:Cells S g (List.replicate n z).flatten (madeCells zv.cells (n*i2.size)):=by
   have:=b0V (S:=S) (g:=g) hKL n (by omega)
   rw [hc.1, ← hs] at this
   exact this
  have hg:=Grows.row hR.hp w (.inl rfl) (madeCells zv.cells (n*i2.size)) e ((List.replicate n z).length*es)
  have h3:∀ x∈List.replicate n z,x.length=es:=fun x hx=>by rw [List.eq_of_mem_replicate hx];exact hc.1
  refine fun o' ho'=>⟨.slice (some ⟨w.heap.size,0,none⟩) n n,_,_,_,by simp only [execOp,ho',Act.eval,Sem.run_bind,hrun,Result.andThen_ok,Sem.run_pure],.inl rfl,.grow hR hg,.rv _ _ (.sc _ _ ?_)⟩
  have:=b0k (S:=S) (k:=.full) (cap:=n) h3 (fun x hx=>List.all_eq_true.1 hc.2 x hx) (fun j c hj=>by
   have hlt:j<(madeCells zv.cells (n*i2.size)).size:=by rw [← h2.1];exact (List.getElem?_eq_some_iff.1 hj).1
   exact ⟨_,Array.getElem?_eq_getElem hlt,h2.2 j c _ hj (Array.getElem?_eq_getElem hlt)⟩) hg.le (by simp) (fun _=>by simp) (by simp)
  simp only [List.length_replicate] at this ⊢
  exact this
 ·cases ee
theorem b1z (hR:Rel S G g nt s a w) {p:Nat} {cs:List C} {vals:Array Value} {t:TypeId} (hp:s.h[p]?=some .free) (hc:Cells S g cs vals\/(cs.length<=vals.size/\∀ (j:Nat) c x,cs[j]?=some c->vals[j]?=some x->RC S g c x)) :
 Goes S G nt g (g.with p w.heap.size) s { t:=drop [] s.t,h:=s.h.set p (.var cs) } a a w (w.alloc (.cells vals t)):=by
 have hc':cs.length<=vals.size/\∀ (j:Nat) c x,cs[j]?=some c->vals[j]?=some x->RC S g c x:=by
  rcases hc with h|h
  ·exact ⟨Nat.le_of_eq h.1,h.2⟩
  ·exact h
 have hle:g.Le (g.with p w.heap.size):=by
  refine ⟨fun r h=>.inr h,fun r h=>?_,fun _ _ _ h=>h,fun _ _ h=>h⟩
  have hne:r≠p:=by
   rintro rfl
   obtain ⟨o,ho,hf⟩:=hR.hp.as r h
   rw [hp] at ho
   simp only [Option.some.injEq] at ho
   subst ho
   simp [a6U] at hf
  simp [Gh.with,hne]
 refine Goes.born (takes:=[]) (off0:=0) hR hp rfl ⟨_,t,heap_alloc_new _ _,hc'.1,fun j c y h2 h3=>.rc _ _ ((hc'.2 j c y h2 h3).mono hle)⟩ ?_
 rintro j b ⟨cs',es,l,vals',elem,fr,ad,n,cap,e1,e2,e3,e4,rfl⟩
 have hplt:p<s.h.length:=(List.getElem?_eq_some_iff.1 hp).1
 simp [hplt] at e1
 subst e1
 have hlt:j<vals.size:=by have:=(List.getElem?_eq_some_iff.1 e2).1;omega
 exact absurd rfl ((hc'.2 j _ _ e2 (Array.getElem?_eq_getElem hlt)).a2a _ es l)
end
end Go.Pm
namespace Go.Pm
theorem b3b:∀ (n r c:Nat),Builtin.growBy n r c<=max c (n+(n+768) / 4)
 | n,0,c=>by simp only [Builtin.growBy];omega
 | n,r+1,c=>by
  simp only [Builtin.growBy]
  split
  ·omega
  ·have:=b3b n r (c+(c+768) / 4)
   omega
theorem nextslicecap_le {n old:Nat} (h:old<n) (hn:n<=2147483648):Builtin.nextslicecap n old<=4294967296:=by
 unfold Builtin.nextslicecap
 split
 ·omega
 ·split
  ·omega
  ·have:=b3b n 4 old
   omega
section
variable {S:Seat} {G:List Nat} {g g' g'':Gh} {nt:Nat} {s s' s'':St} {a a' a'':Act} {w w' w'':World} {h:List Obj} {base:Nat} {v:V} {ws:List (Nat × Obj)} {takes:List Nat}
theorem a5E {es:Nat} {l:List (List C)} {v:V} {x:Value} (hH:RelH S G g h w) (he:0<es) (hel:elems es v=some l) (hv:RV S g v x) :
 ∃ arr:Array Value,(∀ w',w'.heap=w.heap->(Builtin.firstCells es l.length x).run S.P w'=.ok arr w')/\Cells S g l.flatten arr/\(∀ e∈l,e.length=es)/\(∀ e∈l,C.a0v e=true)/\∃ p c,x=.slice p l.length c/\(p=none->l=[]):=by
 rcases a9U hel hv with ⟨rfl,rfl⟩|⟨b,off,cap,rfl,hc,hle,hM⟩
 ·exact ⟨#[],by simp [Builtin.firstCells],⟨rfl,fun j c x h1=>by simp at h1⟩,by simp,by simp,none,0,rfl,fun _=>rfl⟩
 ·have hl:∀ e∈l,e.length=es:=fun e he=>let ⟨i,hi⟩:=List.getElem?_of_mem he;(hle i e hi).1
  have hp:∀ e∈l,C.a0v e=true:=fun e he=>let ⟨i,hi⟩:=List.getElem?_of_mem he;(hle i e hi).2
  have key:∀ k,k<l.length*es->∃ c y,l.flatten[k]?=some c/\w.cell? ⟨b,off+k,none⟩=some y/\RC S g c y:=fun k hk=>by
   have hi:k / es<l.length:=(Nat.div_lt_iff_lt_mul he).2 hk
   have hj:=Nat.mod_lt k he
   have e1:=b0y hl he k
   rw [List.getElem?_eq_getElem hi,Option.bind_some] at e1
   have hlen:=hl l[k / es] (List.getElem_mem hi)
   have hej:l[k / es][k % es]?=some (l[k / es][k % es]'(by rw [hlen];exact hj)):=List.getElem?_eq_getElem _
   obtain ⟨y,hy,hr⟩:=hM (k / es) l[k / es] (k % es) _ (List.getElem?_eq_getElem hi) hej
   rw [Nat.add_assoc,Nat.div_add_mod'] at hy
   exact ⟨_,y,by rw [e1,hej],hH.im _ _ _ hy,hr⟩
  let f:Nat->Value:=fun k=>(w.cell? ⟨b,off+k,none⟩).getD undef
  have hrun:=fun (w':World) (hw':w'.heap=w.heap)=>run_loadCells (P:=S.P) w' ⟨b,off,none⟩ (l.length*es) f (fun k hk=>by
   obtain ⟨c,y,_,h2,_⟩:=key k hk
   have:w'.cell? ⟨b,off+k,none⟩=w.cell? ⟨b,off+k,none⟩:=by simp only [World.cell?,hw']
   rw [Addr.a2h,this];simp [f,h2])
  refine ⟨_,by simp only [Builtin.firstCells];exact hrun,⟨by rw [a2G hl];simp,fun j c x h1 h2=>?_⟩,hl,hp,_,_,rfl,by simp⟩
  have hj:j<l.length*es:=by
   have:=(List.getElem?_eq_some_iff.1 h1).1
   rwa [a2G hl] at this
  obtain ⟨c',y,e1,e2,e3⟩:=key j hj
  rw [h1] at e1
  cases e1
  simp [hj,f,e2] at h2
  subst h2
  exact e3
theorem b5t {P:Program} {t e:TypeId} (h:P.underlying t=some (.slice e)):((do pure ((← underlying t) matches .int _):Sem Bool)).run P w=.ok false w:=by
 simp [run_underlying h]
theorem a7a {t t2 ty:TypeId} {es n cap len c2:Nat} {base:Option Addr} {p2:Option Addr} {new:Array Value} (T:AppTy S t t2 es) (hroom:len+n<=cap)
 (hnew:(Builtin.firstCells es n (.slice p2 n c2)).run S.P w=.ok new w) (hst:∀ ad,base=some ad->(storeCells (ad.add (len*es)) new.toList).run S.P w=.ok () w') (hnone:base=none->w'=w) :
 (Builtin.append_ #[t,t2] ty #[.slice base len cap,.slice p2 n c2]).run S.P w=.ok (.slice base (len+n) cap) w':=by
 have h1:=b5t (w:=w) T.hu2
 simp only [Sem.run_bind] at h1
 cases base with
 | none =>
  have:=hnone rfl
  subst this
  simp [Builtin.append_,run_underlying T.hu,run_underlying T.hu2,a1u T.hi,T.hs,Builtin.lenOf,hroom,hnew]
 | some ad =>
  simp [Builtin.append_,run_underlying T.hu,run_underlying T.hu2,a1u T.hi,T.hs,Builtin.lenOf,hroom,hnew,hst ad rfl]
theorem a9N {t t2 ty:TypeId} {es n cap len c2:Nat} {base:Option Addr} {p2:Option Addr} {old new:Array Value} (T:AppTy S t t2 es) (hroom:cap<len+n) (hle:len+n<=2147483648)
 (hold:∀ w',w'.heap=w.heap->(Builtin.firstCells es len (.slice base len cap)).run S.P w'=.ok old w') (hnew:∀ w',w'.heap=w.heap->(Builtin.firstCells es n (.slice p2 n c2)).run S.P w'=.ok new w') :
 ∃ ncap,len+n<=ncap/\(Builtin.append_ #[t,t2] ty #[.slice base len cap,.slice p2 n c2]).run S.P w =
  .ok (.slice (some ⟨w.heap.size,0,none⟩) (len+n) ncap) (w.drew.alloc (.cells (old++new++Builtin.zeroCells T.zv.cells (ncap - (len+n))) T.e)):=by
 have hnf:¬ (len+n<=cap):=by omega
 have hcap:=nextslicecap_le hroom hle
 have hbytes:Builtin.nextslicecap (len+n) cap*T.i.bytes<=2 ^ 48:=by
  calc _<=4294967296*16384:=Nat.mul_le_mul hcap T.hb
   _<=2 ^ 48:=by decide
 have hbn:¬ (2 ^ 48<Builtin.nextslicecap (len+n) cap*T.i.bytes):=by omega
 have hb0:T.i.bytes≠0:=Nat.pos_iff_ne_zero.1 T.hb0
 refine ⟨len+n+w.tape w.drawn (.appendCap (len+n) cap T.e) % (2 ^ 63 - (len+n)),Nat.le_add_right _ _,?_⟩
 have hq:(choose (.appendCap (len+n) cap T.e)).run S.P w=.ok (len+n+w.tape w.drawn (.appendCap (len+n) cap T.e) % (2 ^ 63 - (len+n))) w.drew:=by
  rw [run_choose];rfl
 have ho:=hold w.drew rfl
 have hn:=hnew w.drew rfl
 generalize len+n+w.tape w.drawn (.appendCap (len+n) cap T.e) % (2 ^ 63 - (len+n))=ncap at hq ⊢
 have hbn':¬ (Builtin.nextslicecap (len+n) cap*T.i.bytes > 2 ^ 48):=by omega
 simp only [Builtin.append_,Sem.run_bind,run_underlying T.hu,run_underlying T.hu2,a1u T.hi,T.hs,Builtin.lenOf,Sem.run_pure,Result.andThen_ok,if_neg hnf,b9y T.hi,if_neg hbn',hq,run_askRoom,ho,hn,a3B T.hi T.hz,
  newRow,newObj,hb0,Bool.false_eq_true,or_self,and_false,if_false,Bool.not_false,if_true,List.getElem?_toArray,List.getElem?_cons_zero,List.getElem?_cons_succ]
 simp [Sem.run]
 rfl
theorem a7y {t t2:TypeId} {x' y':Operand} {x y:Value} {o':Go.Oper} (ho:o'.op=.call { callee:=.builtin .append,args:=#[x',y'],argTypes:=#[t,t2] }) (hx:a.eval x'=x) (hy:a.eval y'=y) {r:Value}
 (hrun:∀ ty,(Builtin.append_ #[t,t2] ty #[x,y]).run S.P w=.ok r w'):(execOp a.eval o').run S.P w=.ok (.value r) w':=by
 have:=hrun o'.type
 simp [execOp,ho,resolve,invoke,builtin,hx,hy,this]
theorem b1N (hR:Rel S G g nt s a w) (k:Grows g g' w w') {t:List (Nat × V)} (ht:∀ i b,a0S t a.tmps i b->a0S s.t a.tmps i b):Unclaimed g' { t:=t,h:=s.h } a w' w.heap.size where
 t:=fun i hc=>absurd (a8e hR (ht i _ hc)) (Nat.lt_irrefl _)
 h:=fun _ _ hc=>absurd (a9R hR.hp (k.a8G hR.hp hc)) (Nat.lt_irrefl _)
 o:=fun r o e hl=>by
  rw [k.le.eq r (hR.hp.lv r o e hl)]
  exact Nat.ne_of_lt (a3e hR.hp e hl)
theorem b1Q (hR:Rel S G g nt s a w) {t t2:TypeId} {x' y':Operand} {x y:Value} {es cap c2:Nat} {l m:List (List C)} {p p2:Option Addr} (T:AppTy S t t2 es) (hx:a.eval x'=x) (hy:a.eval y'=y)
 (hxs:x=.slice p l.length cap) (hys:y=.slice p2 m.length c2) (hcap:cap<l.length+m.length) (hle:l.length+m.length<=2147483648) {old new:Array Value}
 (hold:∀ w',w'.heap=w.heap->(Builtin.firstCells es l.length x).run S.P w'=.ok old w') (hnew:∀ w',w'.heap=w.heap->(Builtin.firstCells es m.length y).run S.P w'=.ok new w')
 (ho:Cells S g l.flatten old) (hn:Cells S g m.flatten new) (hl:∀ e∈l++m,e.length=es) (hp:∀ e∈l++m,C.a0v e=true) (takes:List Nat) (q:Bool) :
 Does S G nt g s a w (.call { callee:=.builtin .append,args:=#[x',y'],argTypes:=#[t,t2] }) takes (.sc (.own q es (l++m))) s.h:=by
 subst hxs
 subst hys
 have h0:∀ ty,∃ ncap,l.length+m.length<=ncap/\(Builtin.append_ #[t,t2] ty #[.slice p l.length cap,.slice p2 m.length c2]).run S.P w =
  .ok (.slice (some ⟨w.heap.size,0,none⟩) (l.length+m.length) ncap) (w.drew.alloc (.cells (old++new++Builtin.zeroCells T.zv.cells (ncap - (l.length+m.length))) T.e)):=fun ty=>a9N T hcap hle hold hnew
 intro o' ho'
 obtain ⟨ncap,hnc,hrun⟩:=h0 o'.type
 have hlen:(l++m).flatten.length=(l.length+m.length)*es:=by rw [a2G hl,List.length_append]
 have hosz:old.size=l.length*es:=by rw [← ho.1,a2G fun e he=>hl e (by simp [he])]
 have hnsz:new.size=m.length*es:=by rw [← hn.1,a2G fun e he=>hl e (by simp [he])]
 generalize hvals:old++new++Builtin.zeroCells T.zv.cells (ncap - (l.length+m.length))=vals at hrun
 have hvsz:vals.size=ncap*es:=by
  rw [← hvals]
  simp only [Array.size_append,hosz,hnsz,Builtin.zeroCells,Array.size_map,Array.size_range,T.hzs]
  rw [← Nat.add_mul, ← Nat.add_mul]
  congr 1;omega
 have hcells:∀ (j:Nat) c,(l++m).flatten[j]?=some c->∃ z,vals[j]?=some z/\RC S g c z:=fun j c hj=>by
  rw [List.flatten_append] at hj
  by_cases hjl:j<l.flatten.length
  ·rw [List.getElem?_append_left hjl] at hj
   have hjo:j<old.size:=by rw [← ho.1];exact hjl
   refine ⟨old[j],?_,ho.2 j c _ hj (Array.getElem?_eq_getElem hjo)⟩
   rw [← hvals,Array.append_assoc,Array.getElem?_append_left hjo,Array.getElem?_eq_getElem hjo]
  ·rw [List.getElem?_append_right (by omega)] at hj
   have hjn:j - l.flatten.length<new.size:=by rw [← hn.1];exact (List.getElem?_eq_some_iff.1 hj).1
   refine ⟨new[j - l.flatten.length],?_,hn.2 _ c _ hj (Array.getElem?_eq_getElem hjn)⟩
   have e1:=ho.1
   rw [← hvals,Array.getElem?_append_left (by simp;omega),Array.getElem?_append_right (by omega), ← ho.1,Array.getElem?_eq_getElem hjn]
 have hex:(execOp a.eval o').run S.P w=.ok (.value (.slice (some ⟨w.heap.size,0,none⟩) (l++m).length ncap)) (w.drew.alloc (.cells vals T.e)):=by
  have:=hrun
  rw [List.length_append]
  simp [execOp,ho',resolve,invoke,builtin,hx,hy,this]
 have hnew':(w.drew.alloc (.cells vals T.e)).heap[w.heap.size]?=some (.cells vals T.e (0,0)):=heap_alloc_new w.drew _
 cases q with
 | false =>
  have hg:=Grows.row hR.hp w.drew (.inr rfl) vals T.e ((l++m).length*es)
  refine ⟨_,_,_,g.row w.heap.size ((l++m).length*es) vals,hex,.inl rfl,(Goes.drop hR takes).trans (.grow (hR.drop takes) hg),.own _ _ _ _ _ _ ⟨fun _=>b0k hl hp hcells hg.le (by simp) (by simp) (by rw [List.length_append];exact hnc),by simp,⟨vals,T.e,hnew',by rw [hvsz];omega⟩,fun o hoo=>?_⟩
   (b1N hR hg fun i b hc=>hc.a2X.1) (fun h=>absurd h (Nat.lt_irrefl _))⟩
  have:¬ (o<(l++m).length*es):=by
   rcases hoo with h|h
   ·cases h
   ·omega
  simp only [Gh.row,if_true,if_neg this]
 | true =>
  have hg:=Grows.row hR.hp w.drew (.inr rfl) vals T.e 0
  refine ⟨_,_,_,g.row w.heap.size 0 vals,hex,.inl rfl,(Goes.drop hR takes).trans (.grow (hR.drop takes) hg),.own _ _ _ _ _ _ ⟨by simp,fun _=>⟨rfl,fun h=>?_,by rw [List.length_append];exact hnc,hl,hp,fun j c hj=>?_⟩,⟨vals,T.e,hnew',by rw [hvsz];omega⟩,fun o hoo=>?_⟩
   (b1N hR hg fun i b hc=>hc.a2X.1) (fun h=>absurd h (Nat.lt_irrefl _))⟩
  ·have:=congrArg List.length h
   simp only [List.length_append,List.length_nil] at this
   omega
  ·obtain ⟨z,hz,hr⟩:=hcells j c hj
   exact ⟨z,by rw [cell_of_heap hnew'];exact hz,hr.mono hg.le⟩
  ·simp only [Gh.row,if_true,Nat.not_lt_zero,if_false]
theorem f2f {es:Nat} {l:List (List C)} {b off cap:Nat} (h:OwnAt S g w true es l b off cap) :
 ∃ arr:Array Value,(∀ w',w'.heap=w.heap->(Builtin.firstCells es l.length (.slice (some ⟨b,off,none⟩) l.length cap)).run S.P w'=.ok arr w')/\Cells S g l.flatten arr/\(∀ e∈l,e.length=es)/\∀ e∈l,C.a0v e=true:=by
 obtain ⟨rfl,hne,hcap,hl,hp,hc⟩:=h.prv rfl
 let f:Nat->Value:=fun k=>(w.cell? ⟨b,k,none⟩).getD undef
 have hlen:l.flatten.length=l.length*es:=a2G hl
 have hrun:=fun (w':World) (hw':w'.heap=w.heap)=>run_loadCells (P:=S.P) w' ⟨b,0,none⟩ (l.length*es) f (fun k hk=>by
  obtain ⟨y,h2,_⟩:=hc k _ (List.getElem?_eq_getElem (by omega))
  have:w'.cell? ⟨b,0+k,none⟩=w.cell? ⟨b,k,none⟩:=by simp only [World.cell?,hw',Nat.zero_add]
  rw [Addr.a2h,this];simp [f,h2])
 refine ⟨_,by simp only [Builtin.firstCells];exact hrun,⟨by rw [hlen];simp,fun j c x h1 h2=>?_⟩,hl,hp⟩
 have hj:j<l.length*es:=by
  have:=(List.getElem?_eq_some_iff.1 h1).1
  rwa [hlen] at this
 obtain ⟨y,e2,e3⟩:=hc j c h1
 simp [hj,f,e2] at h2
 subst h2
 exact e3
theorem own_fits (hR:Rel S G g nt s a w) {t t2:TypeId} {y':Operand} {i es b off cap c2:Nat} {l m:List (List C)} {p2:Option Addr} (T:AppTy S t t2 es) (hgi:get s.t i=.sc (.own true es l)) (hxx:a.tmps.getD i undef=.slice (some ⟨b,off,none⟩) l.length cap)
 (hown:OwnAt S g w true es l b off cap) (hys:a.eval y'=.slice p2 m.length c2) (hfit:l.length+m.length<=cap) {old new:Array Value}
 (hnew:∀ w',w'.heap=w.heap->(Builtin.firstCells es m.length (a.eval y')).run S.P w'=.ok new w') (hn:Cells S g m.flatten new) (hml:∀ e∈m,e.length=es) (hmp:∀ e∈m,C.a0v e=true) :
 Does S G nt g s a w (.call { callee:=.builtin .append,args:=#[.tmp i,y'],argTypes:=#[t,t2] }) [i] (.sc (.own true es (l++m))) s.h:=by
 have hcT:a0S s.t a.tmps i b:=⟨true,es,l,_,_,_,hgi,hxx,rfl⟩
 obtain ⟨h0,hne,hcap,hll,hlp,hc⟩:=hown.prv rfl
 subst h0
 have hev:a.eval (.tmp i)=.slice (some ⟨b,0,none⟩) l.length cap:=hxx
 have hlen:l.flatten.length=l.length*es:=a2G hll
 obtain ⟨cs,elem,hb,hsz⟩:=hown.blk
 have hle:(l.length+m.length)*es<=cap*es:=Nat.mul_le_mul_right _ hfit
 rw [Nat.add_mul] at hle
 have hnsz:new.size=m.length*es:=by rw [← hn.1,a2G hml]
 have hst:=run_storeCells_at S.P b (l.length*es) elem new.toList 0 cs w hb (by simp [hnsz];omega) (fun u hu=>by
  obtain ⟨j,hj⟩:=List.getElem?_of_mem hu
  rw [Array.getElem?_toList] at hj
  have hjl:j<m.flatten.length:=by rw [hn.1];exact (Array.getElem?_eq_some_iff.1 hj).1
  exact b3v (w:=w) (.rc _ _ (hn.2 j _ u (List.getElem?_eq_getElem hjl) hj)))
 rw [Nat.add_zero] at hst
 generalize hrow:(cs.toList.take (l.length*es)++new.toList++cs.toList.drop (l.length*es+new.toList.length)).toArray=row at hst
 have hget:∀ j,row[j]?=if l.length*es<=j/\j<l.length*es+m.length*es then new[j - l.length*es]? else cs[j]?:=fun j=>by
  rw [← hrow,List.getElem?_toArray,b6c _ _ _ _ (by simp [hnsz];omega)]
  simp [hnsz]
 have hrsz:row.size=cs.size:=by
  rw [← hrow];simp [hnsz];omega
 have hnew':(w.setRow b row).heap[b]?=some (.cells row elem (0,0)):=setRow_heap w b cs row elem (0,0) hb
 obtain ⟨hgo,hun⟩:=Goes.extend (g':=g) (w':=w.setRow b row) hR hcT rfl rfl rfl (fun _ _ _ h=>h) (fun _ _ _=>rfl) (fun o v e=>by
  rw [hown.spare o (.inl rfl)] at e;cases e) ⟨cs,elem,_,hb⟩ (fun b' hb'=>b0P hb') (by simp [World.setRow]) rfl rfl rfl
 refine fun o' ho'=>⟨.slice (some ⟨b,0,none⟩) (l++m).length cap,_,w.setRow b row,g,a7y (S:=S) ho' hev rfl fun ty=>?_,.inl rfl,hgo,.own _ _ _ _ _ _ ⟨by simp,fun _=>⟨rfl,by simp [hne],by rw [List.length_append];exact hfit,fun e he=>?_,fun e he=>?_,fun j c hj=>?_⟩,⟨row,elem,hnew',by rw [hrsz];exact hsz⟩,fun o hoo=>hown.spare o (.inl rfl)⟩ hun (fun _=>.inr ⟨i,hcT⟩)⟩
 ·rw [hys,List.length_append]
  refine a7a (S:=S) T hfit (by have:=hnew w rfl;rw [hys] at this;exact this) (fun ad had=>?_) (by simp)
  simp only [Option.some.injEq] at had
  subst had
  rw [Addr.a2h,Nat.zero_add]
  exact hst
 ·rcases List.mem_append.1 he with h|h
  ·exact hll e h
  ·exact hml e h
 ·rcases List.mem_append.1 he with h|h
  ·exact hlp e h
  ·exact hmp e h
 ·rw [cell_of_heap hnew',hget]
  rw [List.flatten_append] at hj
  by_cases hjl:j<l.flatten.length
  ·rw [List.getElem?_append_left hjl] at hj
   rw [if_neg (by omega), ← cell_of_heap hb]
   exact hc j c hj
  ·rw [List.getElem?_append_right (by omega)] at hj
   have hjn:j - l.flatten.length<new.size:=by rw [← hn.1];exact (List.getElem?_eq_some_iff.1 hj).1
   rw [if_pos (by omega), ← hlen]
   exact ⟨_,Array.getElem?_eq_getElem hjn,hn.2 _ c _ hj (Array.getElem?_eq_getElem hjn)⟩
theorem b5h (hR:Rel S G g nt s a w) {es:Nat} {x y:Rand} {x' y':Operand} {t t2:TypeId} (T:AppTy S t t2 es) (h1:MT S G x x') (h2:MR S G y y') (e:eff base s.h (rd S.Γ s.t) (.append es x y)=some (v,ws)) :
 ws=[]/\Does S G nt g s a w (.call { callee:=.builtin .append,args:=#[x',y'],argTypes:=#[t,t2] }) x.takes v s.h:=by
 have hx:=b6Q hR h1
 have hy:=a0M hR h2
 simp only [eff,one,Option.map_eq_some_iff,Prod.mk.injEq] at e
 obtain ⟨c,hc,rfl,rfl⟩:=e
 refine ⟨rfl,?_⟩
 unfold appended at hc
 split at hc
 ·cases hc
 ·rename_i m hm
  obtain ⟨new,hnew,hn,hml,hmp,p2,c2,hys,hp2⟩:=a5E hR.hp T.he hm hy
  split at hc
  ·rename_i k es' l hxv
   split at hc
   ·rename_i hcond
    obtain ⟨rfl,hk,hroom⟩:=hcond
    rw [hxv] at hx
    cases hx with
    | rv _ _ hx =>
     have hel:elems es' (.sc (.sl k es' l))=some l:=by simp [elems]
     obtain ⟨old,hold,ho,hll,hlp,p,c1,hxs,hp1⟩:=a5E hR.hp T.he hel hx
     cases m with
     | nil =>
      simp only [Option.some.injEq] at hc
      subst hc
      have hcap:l.length+0<=c1:=by
       rw [hxs] at hx
       cases hx with
       | sc _ _ h =>
        cases h with
        | slNil=>exact Nat.le_refl 0
        | sl _ _ _ _ _ _ _ _ _ hcc=>exact hcc
      have hnn:new=#[]:=by
       have:=hn.1
       simp at this
       exact Array.size_eq_zero_iff.1 this.symm
      refine fun o' ho'=>⟨a.eval x',_,w,g,a7y (S:=S) ho' rfl rfl fun ty=>?_,.inl rfl,.drop hR x.takes,.rv _ _ hx⟩
      rw [hxs,hys]
      have:=a7a (S:=S) (w:=w) (w':=w) (ty:=ty) (base:=p) (p2:=p2) (c2:=c2) (n:=0) T hcap (by have:=hnew w rfl;rw [hys] at this;exact this) (fun ad _=>by subst hnn;simp [storeCells]) (fun _=>rfl)
      simpa using this
     | cons m0 ms =>
      simp only [Option.some.injEq] at hc
      subst hc
      have hcap:c1=l.length:=by
       rw [hxs] at hx
       cases hx with
       | sc _ _ h =>
        cases h with
        | slNil=>rfl
        | sl _ _ _ _ _ _ _ hk' hf =>
         cases k with
         | nil=>exact absurd rfl hk'
         | full=>exact hf rfl
         | shared=>exact absurd rfl hk
      exact b1Q hR T rfl rfl hxs hys (by rw [hcap];simp) hroom hold hnew ho hn (fun e he=>by rcases List.mem_append.1 he with h|h;exact hll e h;exact hml e h)
       (fun e he=>by rcases List.mem_append.1 he with h|h;exact hlp e h;exact hmp e h) x.takes false
   ·cases hc
  ·rename_i q es' l hxv
   split at hc
   ·rename_i hcond
    obtain ⟨rfl,hroom⟩:=hcond
    simp only [Option.some.injEq] at hc
    subst hc
    cases h1 with
    | r _ _ h =>
     have hv:=a0M hR h
     rw [hxv] at hv
     cases hv with
     | sc _ _ h=>exact absurd rfl (h.a2a _ _ _)
    | tk i =>
     have ht:=hR.tm i
     have hgi:get s.t i=.sc (.own q es' l):=hxv
     rw [hgi] at ht
     have hev:a.eval (.tmp i)=a.tmps.getD i undef:=rfl
     generalize hxx:a.tmps.getD i undef=xv at ht hev
     cases ht with
     | rv _ _ h =>
      cases h with
      | sc _ _ h=>exact absurd rfl (h.a2a _ _ _)
     | none _ =>
      cases m with
      | nil =>
       have hnn:new=#[]:=by
        have:=hn.1
        simp at this
        exact Array.size_eq_zero_iff.1 this.symm
       refine fun o' ho'=>⟨.slice none 0 0,_,w,g,a7y (S:=S) ho' hev rfl fun ty=>?_,.inl rfl,.drop hR [i],.none _⟩
       rw [hys]
       have:=a7a (S:=S) (w:=w) (w':=w) (ty:=ty) (base:=none) (p2:=p2) (c2:=c2) (n:=0) (cap:=0) (len:=0) T (Nat.le_refl 0) (by have:=hnew w rfl;rw [hys] at this;exact this) (fun ad h=>by cases h) (fun _=>rfl)
       simpa using this
      | cons m0 ms =>
       exact b1Q (l:=[]) hR T hev rfl rfl hys (by simp) hroom (old:=#[]) (fun w' _=>by simp [Builtin.firstCells]) hnew ⟨rfl,fun j c x h1=>by simp at h1⟩ hn (fun e he=>hml e (by simpa using he)) (fun e he=>hmp e (by simpa using he)) [i] true
     | own _ _ _ b off cap hown =>
      cases q with
      | true =>
       obtain ⟨old,hold,ho,hll,hlp⟩:=f2f hown
       by_cases hfit:l.length+m.length<=cap
       ·exact own_fits (old:=old) hR T hgi hxx hown hys hfit hnew hn hml hmp
       ·exact b1Q hR T hev rfl rfl hys (by omega) hroom hold hnew ho hn (fun e he=>by rcases List.mem_append.1 he with h|h;exact hll e h;exact hml e h)
         (fun e he=>by rcases List.mem_append.1 he with h|h;exact hlp e h;exact hmp e h) [i] true
      | false =>
      have hrel:=hown.rel rfl
      have hcT:a0S s.t a.tmps i b:=⟨false,es',l,_,_,_,hgi,hxx,rfl⟩
      have hel:elems es' (.sc (.sl .shared es' l))=some l:=by simp [elems]
      obtain ⟨old,hold,ho,hll,hlp,p,c1,hxs,hp1⟩:=a5E hR.hp T.he hel (.sc _ _ hrel)
      have hall:∀ e∈l++m,e.length=es':=fun e he=>by rcases List.mem_append.1 he with h|h;exact hll e h;exact hml e h
      have hallp:∀ e∈l++m,C.a0v e=true:=fun e he=>by rcases List.mem_append.1 he with h|h;exact hlp e h;exact hmp e h
      by_cases hfit:l.length+m.length<=cap
      ·cases hm0:m with
       | nil =>
        subst hm0
        have hnn:new=#[]:=by
         have:=hn.1
         simp at this
         exact Array.size_eq_zero_iff.1 this.symm
        refine fun o' ho'=>⟨.slice (some ⟨b,off,none⟩) l.length cap,_,w,g,a7y (S:=S) ho' hev rfl fun ty=>?_,.inl rfl,.drop hR [i],?_⟩
        ·rw [hys]
         have:=a7a (S:=S) (w:=w) (w':=w) (ty:=ty) (base:=some ⟨b,off,none⟩) (p2:=p2) (c2:=c2) (n:=0) T hfit (by have:=hnew w rfl;rw [hys] at this;exact this) (fun ad _=>by subst hnn;simp [storeCells]) (fun _=>rfl)
         simpa using this
        ·rw [List.append_nil]
         exact .own _ _ _ _ _ _ hown (a8u hR hcT) (fun _=>.inr ⟨i,hcT⟩)
       | cons m0 ms =>
        rw [← hm0]
        obtain ⟨cs,elem,hb,hsz⟩:=hown.blk
        have hlen:(l.length+m.length)*es'<=cap*es':=Nat.mul_le_mul_right _ hfit
        rw [Nat.add_mul] at hlen
        have hnsz:new.size=m.length*es':=by rw [← hn.1,a2G hml]
        have hst:=run_storeCells_at S.P b (off+l.length*es') elem new.toList 0 cs w hb (by simp [hnsz];omega) (fun u hu=>by
         obtain ⟨j,hj⟩:=List.getElem?_of_mem hu
         rw [Array.getElem?_toList] at hj
         have hjl:j<m.flatten.length:=by rw [hn.1];exact (Array.getElem?_eq_some_iff.1 hj).1
         exact b3v (w:=w) (.rc _ _ (hn.2 j _ u (List.getElem?_eq_getElem hjl) hj)))
        rw [Nat.add_zero] at hst
        generalize hrow:(cs.toList.take (off+l.length*es')++new.toList++cs.toList.drop (off+l.length*es' + new.toList.length)).toArray=row at hst
        have hget:∀ j,row[j]?=if off+l.length*es'<=j/\j<off+l.length*es' + m.length*es' then new[j - (off+l.length*es')]? else cs[j]?:=fun j=>by
         rw [← hrow,List.getElem?_toArray,b6c _ _ _ _ (by simp [hnsz];omega)]
         simp [hnsz]
        have hrsz:row.size=cs.size:=by
         rw [← hrow];simp [hnsz];omega
        have hnew':(w.setRow b row).heap[b]?=some (.cells row elem (0,0)):=setRow_heap w b cs row elem (0,0) hb
        let g':Gh:={ g with M:=fun b' o=>if b'=b/\off+l.length*es'<=o/\o<off+l.length*es' + m.length*es' then new[o - (off+l.length*es')]? else g.M b' o }
        have hMo:∀ b' o v,g.M b' o=some v->g'.M b' o=some v:=fun b' o v e=>by
         have:¬ (b'=b/\off+l.length*es'<=o/\o<off+l.length*es' + m.length*es'):=by
          rintro ⟨rfl,h1,_⟩
          rw [hown.spare o (.inr h1)] at e;cases e
         simp only [g',if_neg this];exact e
        obtain ⟨hgo,hun⟩:=Goes.extend (g':=g') (w':=w.setRow b row) hR hcT rfl rfl rfl hMo (fun b' o hb'=>by simp [g',hb']) (fun o v e=>by
         rw [cell_of_heap hnew',hget]
         simp only [g',true_and] at e
         split at e
         ·rename_i hc;rw [if_pos hc];exact e
         ·rename_i hc
          rw [if_neg hc, ← cell_of_heap hb]
          exact hR.hp.im b o v e) ⟨cs,elem,_,hb⟩ (fun b' hb'=>b0P hb') (by simp [World.setRow]) rfl rfl rfl
        refine fun o' ho'=>⟨.slice (some ⟨b,off,none⟩) (l++m).length cap,_,w.setRow b row,g',a7y (S:=S) ho' hev rfl fun ty=>?_,.inl rfl,hgo,.own _ _ _ _ _ _ ⟨fun _=>?_,by simp,⟨row,elem,hnew',by rw [hrsz];exact hsz⟩,fun o hoo=>?_⟩ hun (fun _=>.inr ⟨i,hcT⟩)⟩
        ·rw [hys,List.length_append]
         refine a7a (S:=S) T hfit (by have:=hnew w rfl;rw [hys] at this;exact this) (fun ad had=>?_) (by simp)
         simp only [Option.some.injEq] at had
         subst had
         rw [Addr.a2h]
         exact hst
        ·have hMl:∀ (i:Nat) (e:List C) (j:Nat) c,l[i]?=some e->e[j]?=some c->∃ y,g.M b (off+i*es' + j)=some y/\RC S g c y:=by
          rcases a9U hel (.sc _ _ hrel) with ⟨rfl,h⟩|⟨b2,off2,cap2,h,_,_,hM⟩
          ·intro i e j c hi;simp at hi
          ·cases h;exact hM
         have key:∀ (i:Nat) (e:List C) (j:Nat),(l++m)[i]?=some e->j<es'->∃ z c,g'.M b (off+i*es' + j)=some z/\e[j]?=some c/\RC S g' c z:=by
          intro i e j hi hj
          have hel:=hall e (List.mem_of_getElem? hi)
          have hej:e[j]?=some (e[j]'(by rw [hel];exact hj)):=List.getElem?_eq_getElem _
          by_cases hil:i<l.length
          ·rw [List.getElem?_append_left hil] at hi
           obtain ⟨z,hz,hr⟩:=hMl i e j _ hi hej
           exact ⟨z,_,hMo _ _ _ hz,hej,hr.mono hgo.le⟩
          ·rw [List.getElem?_append_right (by omega)] at hi
           have hfl:=flat_get hml (i - l.length) j hj
           rw [hi,Option.bind_some,hej] at hfl
           have hlt:(i - l.length)*es' + j<new.size:=by rw [← hn.1];exact (List.getElem?_eq_some_iff.1 hfl).1
           have hmul:i*es'=l.length*es' + (i - l.length)*es':=by rw [← Nat.add_mul];congr 1;omega
           refine ⟨new[(i - l.length)*es' + j],_,?_,hej,(hn.2 _ _ _ hfl (Array.getElem?_eq_getElem hlt)).mono hgo.le⟩
           have hin:off+l.length*es'<=off+i*es' + j/\off+i*es' + j<off+l.length*es' + m.length*es':=by rw [hnsz] at hlt;omega
           simp only [g',true_and,if_pos hin]
           rw [show off+i*es' + j - (off+l.length*es')=(i - l.length)*es' + j from by omega]
           exact Array.getElem?_eq_getElem hlt
         refine .sl .shared es' (l++m) b off cap (fun i j=>(g'.M b (off+i*es' + j)).getD undef) (by simp) (by simp) (by rw [List.length_append];exact hfit) (fun i e hi=>hall e (List.mem_of_getElem? hi)) (fun i e hi=>hallp e (List.mem_of_getElem? hi)) (fun i e j hi hj=>?_) (fun i e j c hi hj=>?_)
         ·obtain ⟨z,c,hz,_⟩:=key i e j hi hj
          rw [hz];rfl
         ·have hjl:j<es':=by rw [← hall e (List.mem_of_getElem? hi)];exact (List.getElem?_eq_some_iff.1 hj).1
          obtain ⟨z,c',hz,hc',hr⟩:=key i e j hi hjl
          rw [hj] at hc'
          cases hc'
          rw [hz];exact hr
        ·replace hoo:=hoo.resolve_left (by simp)
         rw [List.length_append,Nat.add_mul] at hoo
         have hnot:¬ (off+l.length*es'<=o/\o<off+l.length*es' + m.length*es'):=by omega
         simp only [g',true_and,if_neg hnot]
         exact hown.spare o (.inr (by omega))
      ·exact b1Q hR T hev rfl rfl hys (by omega) hroom hold hnew ho hn hall hallp [i] false
   ·cases hc
  ·cases hc
theorem b3Y (hR:Rel S G g nt s a w) {a0 es:Nat} {x y:Rand} {x' y':Operand} {t t2:TypeId} (T:AppTy S t t2 es) (h1:MR S G x x') (h2:MR S G y y') (e:eff base s.h (rd S.Γ s.t) (.appendM a0 es x y)=some (v,ws)) :
 Does S G nt g s a w (.call { callee:=.builtin .append,args:=#[x',y'],argTypes:=#[t,t2] }) [] v (a0I s.h ws):=by
 have hx:=a0M hR h1
 have hy:=a0M hR h2
 simp only [eff] at e
 split at e
 ·cases e
 ·rename_i m hm
  obtain ⟨new,hnew,hn,hml,hmp,p2,c2,hys,hp2⟩:=a5E hR.hp T.he hm hy
  split at e
  ·rename_i k es' l hxv
   split at e
   ·rename_i hes
    subst hes
    rw [hxv] at hx
    have hel:elems es' (.sc (.sl k es' l))=some l:=by simp [elems]
    obtain ⟨old,hold,ho,hll,hlp,p,c1,hxs,hp1⟩:=a5E hR.hp T.he hel hx
    cases m with
    | nil =>
     simp only [Option.some.injEq,Prod.mk.injEq] at e
     obtain ⟨rfl,rfl⟩:=e
     have hcap:l.length+0<=c1:=by
      rw [hxs] at hx
      cases hx with
      | sc _ _ h =>
       cases h with
       | slNil=>exact Nat.le_refl 0
       | sl _ _ _ _ _ _ _ _ _ hcc=>exact hcc
     have hnn:new=#[]:=by
      have:=hn.1
      simp at this
      exact Array.size_eq_zero_iff.1 this.symm
     refine fun o' ho'=>⟨a.eval x',_,w,g,a7y (S:=S) ho' rfl rfl fun ty=>?_,.inl rfl,.drop hR [],.rv _ _ hx⟩
     rw [hxs,hys]
     have:=a7a (S:=S) (w:=w) (w':=w) (ty:=ty) (base:=p) (p2:=p2) (c2:=c2) (n:=0) T hcap (by have:=hnew w rfl;rw [hys] at this;exact this) (fun ad _=>by subst hnn;simp [storeCells]) (fun _=>rfl)
     simpa using this
    | cons m0 ms =>
     simp only at e
     split at e
     ·rename_i hcond
      obtain ⟨hfree,hk,hroom⟩:=hcond
      simp only [Option.some.injEq,Prod.mk.injEq] at e
      obtain ⟨rfl,rfl⟩:=e
      generalize hmm:m0::ms=m at *
      have hcap:c1=l.length:=by
       rw [hxs] at hx
       cases hx with
       | sc _ _ h =>
        cases h with
        | slNil=>rfl
        | sl _ _ _ _ _ _ _ hk' hf =>
         cases k with
         | nil=>exact absurd rfl hk'
         | full=>exact hf rfl
         | shared=>exact absurd rfl hk
      have hm1:0<m.length:=by rw [← hmm];simp
      intro o' ho'
      obtain ⟨ncap,hnc,hrun⟩:=a9N (S:=S) (w:=w) (ty:=o'.type) (base:=p) (p2:=p2) (cap:=c1) (c2:=c2) (old:=old) (new:=new) T (by omega) hroom
       (fun w' hw'=>by have:=hold w' hw';rw [hxs] at this;exact this) (fun w' hw'=>by have:=hnew w' hw';rw [hys] at this;exact this)
      have hl:∀ e∈l++m,e.length=es':=fun e he=>by rcases List.mem_append.1 he with h|h;exact hll e h;exact hml e h
      have hp:∀ e∈l++m,C.a0v e=true:=fun e he=>by rcases List.mem_append.1 he with h|h;exact hlp e h;exact hmp e h
      have hlen:(l++m).flatten.length=(l.length+m.length)*es':=by rw [a2G hl,List.length_append]
      have hosz:old.size=l.length*es':=by rw [← ho.1,a2G fun e he=>hl e (by simp [he])]
      have hnsz:new.size=m.length*es':=by rw [← hn.1,a2G fun e he=>hl e (by simp [he])]
      generalize hvals:old++new++Builtin.zeroCells T.zv.cells (ncap - (l.length+m.length))=vals at hrun
      have hvsz:vals.size=ncap*es':=by
       rw [← hvals]
       simp only [Array.size_append,hosz,hnsz,Builtin.zeroCells,Array.size_map,Array.size_range,T.hzs]
       rw [← Nat.add_mul, ← Nat.add_mul]
       congr 1;omega
      have hcells:∀ (j:Nat) c z,(l++m).flatten[j]?=some c->vals[j]?=some z->RC S g c z:=fun j c z hj hz=>by
       rw [List.flatten_append] at hj
       by_cases hjl:j<l.flatten.length
       ·rw [List.getElem?_append_left hjl] at hj
        have hjo:j<old.size:=by rw [← ho.1];exact hjl
        rw [← hvals,Array.append_assoc,Array.getElem?_append_left hjo] at hz
        exact ho.2 j c z hj hz
       ·rw [List.getElem?_append_right (by omega)] at hj
        have hjn:j - l.flatten.length<new.size:=by rw [← hn.1];exact (List.getElem?_eq_some_iff.1 hj).1
        have e1:=ho.1
        rw [← hvals,Array.getElem?_append_left (by simp;omega),Array.getElem?_append_right (by omega), ← ho.1] at hz
        exact hn.2 _ c z hj hz
      have hex:(execOp a.eval o').run S.P w=.ok (.value (.slice (some ⟨w.heap.size,0,none⟩) (l.length+m.length) ncap)) (w.drew.alloc (.cells vals T.e)):=by
       have:=hrun
       simp [execOp,ho',resolve,invoke,builtin,hxs,hys,this]
      have hgd:=Goes.grow hR (Grows.drew g w)
      have hRd:Rel S G g nt s a w.drew:=hgd.rel
      have hfr:=a3v hfree
      have hb:=b1z (t:=T.e) (vals:=vals) hRd hfr (.inr ⟨by rw [hlen,hvsz];exact Nat.mul_le_mul_right _ hnc,hcells⟩)
      have hrv:RV S (g.with (base+a0) w.drew.heap.size) (.sc (.msl (base+a0) 0 (l.length+m.length) 0 es')) (.slice (some ⟨w.heap.size,0,none⟩) (l.length+m.length) ncap):=by
       have hσ:(g.with (base+a0) w.drew.heap.size).σ (base+a0)=w.heap.size:=by simp [Gh.with]
       have:=RC.msl (S:=S) (g:=g.with (base+a0) w.drew.heap.size) (base+a0) 0 (l.length+m.length) 0 es' ncap (.inl rfl) hnc (.inl rfl)
       rw [hσ] at this
       exact .sc _ _ this
      exact ⟨_,_,_,_,hex,.inl rfl,hgd.trans hb,.rv _ _ hrv⟩
     ·cases e
   ·cases e
  ·cases e
theorem f8m (hR:Rel S G g nt s a w) {es:Nat} {x y:Rand} {x' y':Operand} {t t2:TypeId} (T:AppTy S t t2 es) (h1:MT S G x x') (h2:MR S G y y') (e:eff base s.h (rd S.Γ s.t) (.appendP es x y)=some (v,ws)) :
 ws=[]/\Does S G nt g s a w (.call { callee:=.builtin .append,args:=#[x',y'],argTypes:=#[t,t2] }) x.takes v s.h:=by
 by_cases hsl:∃ k es' l,rd S.Γ s.t x=.sc (.sl k es' l)
 ·obtain ⟨k,es',l,hxv⟩:=hsl
  have hx:=b6Q hR h1
  have hy:=a0M hR h2
  simp only [eff,one,Option.map_eq_some_iff,Prod.mk.injEq] at e
  obtain ⟨c,hc,rfl,rfl⟩:=e
  refine ⟨rfl,?_⟩
  simp only [f1F,hxv] at hc
  split at hc
  ·rename_i m0 ms hm
   obtain ⟨new,hnew,hn,hml,hmp,p2,c2,hys,hp2⟩:=a5E hR.hp T.he hm hy
   split at hc
   ·rename_i hcond
    obtain ⟨rfl,hk,hroom⟩:=hcond
    simp only [Option.some.injEq] at hc
    subst hc
    rw [hxv] at hx
    cases hx with
    | rv _ _ hx =>
     have hel:elems es' (.sc (.sl k es' l))=some l:=by simp [elems]
     obtain ⟨old,hold,ho,hll,hlp,p,c1,hxs,hp1⟩:=a5E hR.hp T.he hel hx
     have hcap:c1=l.length:=by
      rw [hxs] at hx
      cases hx with
      | sc _ _ h =>
       cases h with
       | slNil=>rfl
       | sl _ _ _ _ _ _ _ hk' hf =>
        cases k with
        | nil=>exact absurd rfl hk'
        | full=>exact hf rfl
        | shared=>exact absurd rfl hk
     exact b1Q hR T rfl rfl hxs hys (by rw [hcap];simp) hroom hold hnew ho hn (fun e he=>by rcases List.mem_append.1 he with h|h;exact hll e h;exact hml e h)
      (fun e he=>by rcases List.mem_append.1 he with h|h;exact hlp e h;exact hmp e h) x.takes true
   ·cases hc
  ·cases hc
 ·refine b5h (base:=base) hR T h1 h2 ?_
  rw [← e]
  simp only [eff]
  congr 1
  unfold f1F
  split
  ·rename_i k es' l hxv;exact absurd ⟨k,es',l,hxv⟩ hsl
  ·rfl
end
end Go.Pm
namespace Go.Pm
theorem bytes_eq {a b:ByteArray} (h:(a == b)=true):a=b:=by
 have:(a.data == b.data)=true:=h
 cases a;cases b;simp_all
theorem b9R {t:Nat} {c d:C} (h:a0g t c d=some true):c=d:=by
 unfold a0g at h
 split at h
 ·simp at h;rw [h]
 ·split at h
  ·rename_i hk;subst hk;simp at h;rw [h]
  ·cases h
 ·simp only [Option.some.injEq] at h
  rw [bytes_eq h]
 ·cases h
theorem b1U {t:Nat} {ts:List Nat} {c d:C} {cs ds:List C} (h:a0c (t::ts) (c::cs) (d::ds)=some true):a0g t c d=some true/\a0c ts cs ds=some true:=by
 unfold a0c at h
 split at h
 ·rename_i x y h1 h2
  simp only [Option.some.injEq,Bool.and_eq_true] at h
  obtain ⟨rfl,rfl⟩:=h
  exact ⟨h1,h2⟩
 ·cases h
theorem a7W:∀ {ts:List Nat} {cs ds:List C},a0c ts cs ds=some true->cs=ds
 | [],[],[],_=>rfl
 | t::ts,c::cs,d::ds,h=>by
  obtain ⟨h1,h2⟩:=b1U h
  rw [b9R h1,a7W h2]
 | [],_::_,_,h=>by simp [a0c] at h
 | [],[],_::_,h=>by simp [a0c] at h
 | _::_,[],_,h=>by simp [a0c] at h
 | _::_,_::_,[],h=>by simp [a0c] at h
section
variable {S:Seat} {G:List Nat} {g g' g'':Gh} {nt:Nat} {s s' s'':St} {a a' a'':Act} {w w' w'':World} {h:List Obj} {base:Nat} {v:V} {ws:List (Nat × Obj)} {takes:List Nat}
theorem a9F {t:Nat} {c d:C} {x y:Value} (h:a0g t c d=some true) (hx:RC S g c x) (hy:RC S g d y) (n:Nat):Instr.sameBits n x y=true:=by
 rcases a6f h hx hy with ⟨_,p,q,rfl,rfl,e⟩|⟨_,k,p,q,rfl,rfl,e⟩|⟨_,p,q,rfl,rfl,e⟩
 ·cases n<;>simp [Instr.sameBits]<;>simpa using e.symm
 ·cases n<;>simp [Instr.sameBits]<;>simpa using e.symm
 ·cases n<;>simp [Instr.sameBits]<;>exact e.symm
theorem b3g:∀ {ts:List Nat} {cs ds:List C},a0c ts cs ds=some true->∀ (j:Nat) c d,cs[j]?=some c->ds[j]?=some d->∃ t,a0g t c d=some true
 | [],[],[],_,j,c,d,hc,_=>by simp at hc
 | t::ts,c::cs,d::ds,h,j,c',d',hc,hd=>by
  obtain ⟨h1,h2⟩:=b1U h
  rcases j with _|j
  ·simp at hc hd;subst hc;subst hd;exact ⟨t,h1⟩
  ·exact b3g h2 j c' d' (by simpa using hc) (by simpa using hd)
 | [],_::_,_,h,_,_,_,_,_=>by simp [a0c] at h
 | [],[],_::_,h,_,_,_,_,_=>by simp [a0c] at h
 | _::_,[],_,h,_,_,_,_,_=>by simp [a0c] at h
 | _::_,_::_,[],h,_,_,_,_,_=>by simp [a0c] at h
theorem b0m {ty:KT} {d:Nat} {t:TypeId} {cs ds:List C} {x y:Value} (hf:flat S.P d t=some ty) (h:a0c ty.tags cs ds=some true) (hx:KR S g ty.agg cs x) (hy:KR S g ty.agg ds y) (w:World) :
 (Instr.keyThatStays y x).run S.P w=.ok x w:=by
 have hb:Instr.sameBits 10000 y x=true:=by
  have hsame:=a7W h
  subst hsame
  cases hag:ty.agg with
  | false =>
   rw [hag] at hx hy
   obtain ⟨u,_,_,h1⟩:=flat_agg hf
   have hl:=h1 hag
   obtain ⟨t',ht'⟩:∃ t',ty.tags=[t']:=by
    cases htt:ty.tags with
    | nil=>rw [htt] at hl;simp at hl
    | cons t' ts=>cases ts with
     | nil=>exact ⟨t',rfl⟩
     | cons=>rw [htt] at hl;simp at hl
   rw [ht'] at h
   obtain ⟨c,d',e1,e2,e3⟩:=a5e h
   subst e1
   simp at e2
   subst e2
   exact a9F e3 hy.a2C hx.a2C _
  | true =>
   rw [hag] at hx hy
   obtain ⟨xs,rfl,hlx,hrx⟩:=hx.a2T
   obtain ⟨ys,rfl,hly,hry⟩:=hy.a2T
   have hsz:ys.size=xs.size:=by omega
   simp only [Instr.sameBits,Bool.and_eq_true,beq_iff_eq,hsz,true_and,List.all_eq_true]
   intro p hp
   obtain ⟨j,hj⟩:=List.getElem?_of_mem hp
   rw [List.getElem?_zip_eq_some] at hj
   obtain ⟨j1,j2⟩:=hj
   rw [Array.getElem?_toList] at j1 j2
   have hjl:j<cs.length:=by rw [hly];exact (Array.getElem?_eq_some_iff.1 j1).1
   obtain ⟨t',ht'⟩:=b3g h j _ _ (List.getElem?_eq_getElem hjl) (List.getElem?_eq_getElem hjl)
   exact a9F ht' (hry j _ _ (List.getElem?_eq_getElem hjl) j1) (hrx j _ _ (List.getElem?_eq_getElem hjl) j2) _
 simp [Instr.keyThatStays,hb]
def setBlock (w:World) (r:Nat) (o:Go.Obj):World:={ w with heap:=w.heap.setIfInBounds r o }
theorem a4E {P:Program} {r:Nat} {es:Array MapEntry} {n:Nat} {o:Go.Obj} (h:w.heap[r]?=some (.map es n)):(setObj r o).run P w=.ok () (setBlock w r o):=by
 simp [setObj,Sem.run,h,setBlock]
theorem a4D {P:Program} {r:Nat} {es:Array MapEntry} {n:Nat} (h:w.heap[r]?=some (.map es n)):(getObj r).run P w=.ok (.map es n) w:=by
 simp [getObj,Sem.run,h]
theorem a9G {r b:Nat} {o:Go.Obj} (h:b≠r):(setBlock w r o).heap[b]?=w.heap[b]?:=by
 simp only [setBlock,Array.getElem?_setIfInBounds]
 rw [if_neg (fun e=>h e.symm)]
theorem b0l {r:Nat} {o:Go.Obj} (h:r<w.heap.size):(setBlock w r o).heap[r]?=some o:=by
 simp [setBlock,h]
theorem set_self {h:List Obj} {p:Nat} {o:Obj} (e:h[p]?=some o):h.set p o=h:=by
 apply List.ext_getElem?
 intro j
 by_cases hj:j=p
 ·subst hj
  have:=(List.getElem?_eq_some_iff.1 e).1
  rw [List.getElem?_set_self this,e]
 ·rw [a5p hj]
theorem Goes.a8N (hR:Rel S G g nt s a w) {p:Nat} {ka va:Bool} {l l':List (List C × List C)} {ph ph':Option (List C × List C)} {es:Array MapEntry} (hp:s.h[p]?=some (.map ka va l ph))
 (h1:∀ (i:Nat) m,es[i]?=some m->m.born=i) (h2:es.size=l'.length+(if ph'.isSome then 1 else 0))
 (h3:∀ (i:Nat) e m,l'[i]?=some e->es[i]?=some m->KR S g ka e.1 m.key/\KR S g va e.2 m.val/\C.a0v e.1=true/\C.a0v e.2=true)
 (h4:∀ k z m,ph'=some (k,z)->es[l'.length]?=some m->KR S g ka k m.key/\KR S g va z m.val/\C.a0v k=true/\C.a0v z=true) :
 Goes S G nt g g s { t:=Pm.drop [] s.t,h:=s.h.set p (.map ka va l' ph') } a a w (setBlock w (g.σ p) (.map es es.size)):=by
 have hlt:=a3e hR.hp hp rfl
 refine Goes.modify (takes:=[]) (off0:=0) hR hp rfl rfl (fun b hb=>a9G hb) (by simp [setBlock]) rfl rfl rfl ⟨es,b0l hlt,h1,h2,h3,h4⟩ ?_
 rintro j b ⟨cs,es,l,vals,elem,fr,ad,m,cap,e1,_⟩
 have hplt:p<s.h.length:=(List.getElem?_eq_some_iff.1 hp).1
 simp [hplt] at e1
theorem b0i {va:Bool} {v:V} {x:Value} (h:proper va v=true) (hv:RV S g v x):KR S g va v.cells x:=by
 simp only [proper,Bool.and_eq_true,beq_iff_eq,Bool.or_eq_true] at h
 refine .b3Q hv h.1 ?_ ?_
 ·rintro rfl
  have h1:va=false:=h.1.symm
  subst h1
  simp [V.cells] at h
 ·rintro vs rfl
  have h1:va=false:=h.1.symm
  subst h1
  simp [V.cells] at h
theorem b6E (hR:Rel S G g nt s a w) {n:Nat} {ka va:Bool} {t:TypeId} (e:eff base s.h (rd S.Γ s.t) (.mkmap n ka va)=some (v,ws)):Does S G nt g s a w (.makeMap t none) [] v (a0I s.h ws):=by
 simp only [eff] at e
 split at e
 ·rename_i hc
  simp only [Option.some.injEq,Prod.mk.injEq] at e
  obtain ⟨rfl,rfl⟩:=e
  have hp:=a3v hc
  have hσ:(g.with (base+n) w.heap.size).σ (base+n)=w.heap.size:=by simp [Gh.with]
  refine fun o' ho'=>⟨.map (some w.heap.size),_,w.alloc (.map #[] 0),_,by simp [execOp,ho',Instr.makeMap,newObj,Sem.run,World.alloc_eq],.inl rfl,
   Goes.born (takes:=[]) (off0:=0) hR hp rfl ⟨#[],heap_alloc_new _ _,fun i m h=>by simp at h,rfl,fun i e m h=>by simp at h,fun k z m h=>by simp at h⟩ ?_,.rv _ _ (.sc _ _ ?_)⟩
  ·rintro j b ⟨cs,es,l,vals,elem,fr,ad,m,cap,e1,_⟩
   have hplt:base+n<s.h.length:=(List.getElem?_eq_some_iff.1 hp).1
   simp [hplt] at e1
  ·have:=RC.map (S:=S) (g:=g.with (base+n) w.heap.size) (base+n) (.inl rfl)
   rw [hσ] at this
   exact this
 ·cases e
theorem a7G {p:Nat} {x:Value} (h:RV S g (.sc (.map p)) x):g.A p/\x=.map (some (g.σ p)):=by
 have:=h.a8W (by simp)
 cases this with
 | map r hA=>exact ⟨hA,rfl⟩
theorem a7R {i n:Nat} {c:List C} {es:List MapEntry} {o:Option (Nat × Value)} (h:a8J i (some (n,c)) es o):∃ m,i<=n/\es[n - i]?=some m/\o=some (n,m.val):=h
theorem b3n (hR:Rel S G g nt s a w) {ty:KT} {m key y:Rand} {t kt et:TypeId} {m' key' y':Operand} {d:Nat} {o:Go.Op} (ho:o=.mapUpdate t m' key' y'\/o=.insert t m' key' y') (h1:MR S G m m') (h2:MR S G key key') (h3:MR S G y y')
 (hu:S.P.underlying t=some (.map kt et)) (hf:flat S.P d kt=some ty) (hd:d<=100)
 (e:eff base s.h (rd S.Γ s.t) (.mupd ty m key y)=some (v,ws)):Does S G nt g s a w o [] v (a0I s.h ws):=by
 have hm:=a0M hR h1
 have hk:=a0M hR h2
 have hy:=a0M hR h3
 have fin:∀ W:World,(Instr.mapUpdate t (a.eval m') (a.eval key') (a.eval y')).run S.P w=.ok () W->∀ o':Go.Oper,o'.op=o->(execOp a.eval o').run S.P w=.ok .skip W:=fun W hW o' ho'=>by
  rcases ho with rfl|rfl<;>simp [execOp,ho',hW]
 simp only [eff] at e
 split at e
 ·rename_i p hp
  rw [hp] at hm
  obtain ⟨hA,hx⟩:=a7G hm
  split at e
  ·rename_i ka va l hobj
   split at e
   ·rename_i hcond
    obtain ⟨hpk,hpv,hpr,hfit,rfl⟩:=hcond
    obtain ⟨kr,klen⟩:=b2H hf hfit hk
    have kv:=b0i hpr hy
    obtain ⟨es,hb,hborn,hsz,hents,_⟩:=hR.hp.ob p _ hobj
    simp at hsz
    have hE:Ents S g ty.agg va l es.toList:=⟨by simp [hsz],fun i e m a b=>by
     rw [Array.getElem?_toList] at b
     obtain ⟨x,y,_⟩:=hents i e m a b;exact ⟨x,y⟩⟩
    have hck:(Instr.checkKey false 10000 kt (a.eval key')).run S.P w=.ok () w:=a6j d kt ty hf 10000 (by omega) w _ _ kr klen
    have hlt:=a3e hR.hp hobj rfl
    split at e
    ·rename_i i cs hr
     simp only [Option.some.injEq,Prod.mk.injEq] at e
     obtain ⟨rfl,rfl⟩:=e
     obtain ⟨o1,ho1,hfd⟩:=a4S hf hd kr w hE.keys hr
     obtain ⟨me,_,hme,rfl⟩:=a7R hfd
     obtain ⟨_,en,hen,_,heq⟩:=find_spec l 0 i cs hr
     rw [Nat.sub_zero] at hen hme
     rw [Array.getElem?_toList] at hme
     have hst:=b0m hf heq kr (hE.2 i en me hen (by rw [Array.getElem?_toList];exact hme)).1 w
     have hi:i<l.length:=(List.getElem?_eq_some_iff.1 hen).1
     have hgo:=Goes.a8N (l':=setAt i (rd S.Γ s.t y).cells l) (ph':=none) (es:=es.modify i fun e=>{ e with key:=a.eval key',val:=a.eval y' }) hR hobj (fun j m hj=>by
      rw [Array.getElem?_modify] at hj
      split at hj
      ·simp only [Option.map_eq_some_iff] at hj
       obtain ⟨m0,hm0,rfl⟩:=hj
       exact hborn j m0 hm0
      ·exact hborn j m hj) (by simp [setAt,hen,hsz]) (fun j e m hj hjm=>by
      simp only [setAt,hen] at hj
      rw [Array.getElem?_modify] at hjm
      split at hjm
      ·rename_i hij
       subst hij
       simp only [Option.map_eq_some_iff] at hjm
       obtain ⟨m0,hm0,rfl⟩:=hjm
       rw [List.getElem?_set_self hi] at hj
       cases hj
       obtain ⟨_,_,k3,_⟩:=hents i en m0 hen hm0
       exact ⟨by rw [← a7W heq];exact kr,kv,k3,hpv⟩
      ·rename_i hij
       rw [List.getElem?_set_ne hij] at hj
       exact hents j e m hj hjm) (fun k z m h=>by simp at h)
     exact fun o' ho'=>⟨undef,_,_,g,fin _ (by simp [Instr.mapUpdate,run_underlying hu,hx,a4D hb,hck,ho1,hme,hst,a4E hb];rfl) o' ho',.inr ⟨rfl,rfl⟩,by simpa [a0I] using hgo,.rv _ _ (.tup [] #[] rfl fun j v w a b=>by simp at a)⟩
    ·rename_i hr
     simp only [Option.some.injEq,Prod.mk.injEq] at e
     obtain ⟨rfl,rfl⟩:=e
     obtain ⟨o1,ho1,hfd⟩:=a4S hf hd kr w hE.keys hr
     have:o1=none:=hfd
     subst this
     have hgo:=Goes.a8N (l':=l++[((rd S.Γ s.t key).cells,(rd S.Γ s.t y).cells)]) (ph':=none) (es:=es.push { key:=a.eval key',val:=a.eval y',born:=es.size }) hR hobj (fun j m hj=>by
      rw [Array.getElem?_push] at hj
      split at hj
      ·rename_i hij;simp at hj;subst hj;exact hij.symm
      ·exact hborn j m hj) (by simp [hsz]) (fun j e m hj hjm=>by
      rw [Array.getElem?_push] at hjm
      split at hjm
      ·rename_i hij
       simp at hjm
       subst hjm
       rw [hij,hsz] at hj
       simp at hj
       subst hj
       exact ⟨kr,kv,hpk,hpv⟩
      ·rename_i hij
       have hjl:j<l.length:=by
        have:=(List.getElem?_eq_some_iff.1 hj).1
        simp at this
        omega
       rw [List.getElem?_append_left hjl] at hj
       exact hents j e m hj hjm) (fun k z m h=>by simp at h)
     exact fun o' ho'=>⟨undef,_,_,g,fin _ (by simp [Instr.mapUpdate,run_underlying hu,hx,a4D hb,hck,ho1,a4E hb];rfl) o' ho',.inr ⟨rfl,rfl⟩,by simpa [a0I] using hgo,.rv _ _ (.tup [] #[] rfl fun j v w a b=>by simp at a)⟩
    ·cases e
   ·cases e
  ·cases e
 ·cases e
end
end Go.Pm
namespace Go.Pm
def keyC (ks:List Int):List C:=ks.map (C.int .i64)
def setL (L:List (List Int)):List (List C × List C):=L.map fun ks=>(keyC ks,[.bool true])
def b7d:Value->List Int
 | .agg vs=>vs.toList.map fun x=>match x with
  | .int _ n=>n
  | _=>0
 | _=>[]
theorem a5k (ks:List Int):b7d (a4O ks)=ks:=by
 simp only [a4O,b7d,List.map_map]
 rw [show ((fun x:Value=>match x with | .int _ n=>n|_=>0) ∘ Value.int .i64)=id from funext fun _=>rfl]
 simp
theorem b1X {a b:List Int} (h:a4O a=a4O b):a=b:=by rw [← a5k a,h,a5k]
structure SetIs (n:Nat) (f:List Int->Bool) (es:List MapEntry) (L:List (List Int)):Prop where
 len:L.length=es.length
 ent:∀ (i:Nat) ks m,L[i]?=some ks->es[i]?=some m->ks.length=n/\m.key=a4O ks/\m.val=.bool true
 mem:∀ ks,f ks=true<->ks∈L
theorem a7s.list {n:Nat} {f:List Int->Bool} {es:List MapEntry} (h:a7s n f es):∃ L,SetIs n f es L:=by
 refine ⟨es.map fun m=>b7d m.key,by simp,fun i ks m hi hm=>?_,fun ks=>?_⟩
 ·rw [List.getElem?_map,hm] at hi
  simp only [Option.map_some,Option.some.injEq] at hi
  obtain ⟨k,hl,hk,hv⟩:=h.1 m (List.mem_of_getElem? hm)
  rw [hk,a5k] at hi
  subst hi
  exact ⟨hl,hk,hv⟩
 ·rw [h.2 ks,List.mem_map]
  constructor
  ·rintro ⟨m,hm,hk⟩;exact ⟨m,hm,by rw [hk,a5k]⟩
  ·rintro ⟨m,hm,hk⟩
   obtain ⟨k,hl,hk',hv⟩:=h.1 m hm
   rw [hk',a5k] at hk
   subst hk
   exact ⟨m,hm,hk'⟩
theorem SetIs.es {n:Nat} {f:List Int->Bool} {es:List MapEntry} {L:List (List Int)} (h:SetIs n f es L):a7s n f es:=by
 refine ⟨fun m hm=>?_,fun ks=>?_⟩
 ·obtain ⟨i,hi⟩:=List.getElem?_of_mem hm
  have hlt:i<L.length:=by rw [h.len];exact (List.getElem?_eq_some_iff.1 hi).1
  obtain ⟨a,b,c⟩:=h.ent i _ m (List.getElem?_eq_getElem hlt) hi
  exact ⟨_,a,b,c⟩
 ·rw [h.mem]
  constructor
  ·intro hm
   obtain ⟨i,hi⟩:=List.getElem?_of_mem hm
   have hlt:i<es.length:=by rw [← h.len];exact (List.getElem?_eq_some_iff.1 hi).1
   obtain ⟨a,b,c⟩:=h.ent i _ _ hi (List.getElem?_eq_getElem hlt)
   exact ⟨_,List.getElem_mem hlt,b⟩
  ·rintro ⟨m,hm,hk⟩
   obtain ⟨i,hi⟩:=List.getElem?_of_mem hm
   have hlt:i<L.length:=by rw [h.len];exact (List.getElem?_eq_some_iff.1 hi).1
   obtain ⟨a,b,c⟩:=h.ent i _ m (List.getElem?_eq_getElem hlt) hi
   rw [hk] at b
   rw [b1X b];exact List.getElem_mem hlt
theorem b1V:∀ (a b:List Int),a.length=b.length->a0c (List.replicate a.length 1) (keyC a) (keyC b)=some (decide (a=b))
 | [],[],_=>rfl
 | x::xs,y::ys,h=>by
  have ih:=b1V xs ys (by simpa using h)
  simp only [keyC] at ih
  simp only [List.length_cons,List.replicate_succ,keyC,List.map_cons,a0c,a0g,if_true,ih,List.cons.injEq,Bool.decide_and]
  by_cases e:x=y<;>simp [e]
theorem b1b {n:Nat} {ks:List Int} (hk:ks.length=n):∀ (L:List (List Int)) (i:Nat),(∀ k∈L,k.length=n) →
 ∃ r,find (List.replicate n 1) (keyC ks) i (setL L)=some r/\(ks∈L->∃ j,r=some (j,[.bool true]))/\(ks ∉ L->r=none)
 | [],i,_=>⟨none,rfl,by simp,fun _=>rfl⟩
 | x::L,i,h=>by
  have hx:=h x (by simp)
  have he:=b1V ks x (by omega)
  rw [hk] at he
  obtain ⟨r,hr,h1,h2⟩:=b1b hk L (i+1) fun k hk=>h k (by simp [hk])
  by_cases e:ks=x
  ·refine ⟨some (i,[.bool true]),?_,fun _=>⟨i,rfl⟩,fun hn=>absurd (by simp [e]) hn⟩
   rw [decide_eq_true e] at he
   simp only [setL,List.map_cons,find,he]
  ·refine ⟨r,?_,fun hm=>h1 (by simpa [e] using hm),fun hn=>h2 (by simpa [e] using hn)⟩
   rw [decide_eq_false e] at he
   simp only [setL,List.map_cons,find,he]
   exact hr
theorem b3d:∀ {cs:List C} {ks:List Int},intsOf cs=some ks->cs=keyC ks
 | [],ks,h=>by simp [intsOf] at h;subst h;rfl
 | c::cs,ks,h=>by
  unfold intsOf at h
  split at h
  ·rename_i heq;cases heq
  ·rename_i n cs' heq
   simp only [List.cons.injEq] at heq
   obtain ⟨rfl,rfl⟩:=heq
   simp only [Option.map_eq_some_iff] at h
   obtain ⟨k,hk,rfl⟩:=h
   rw [b3d hk];rfl
  ·cases h
theorem b1W {n:Nat} {v:V} {ks:List Int} (h:a6a n v=some ks):v=.agg (keyC ks)/\ks.length=n:=by
 unfold a6a at h
 split at h
 ·rename_i cs
  split at h
  ·rename_i hl
   have:=b3d h
   subst this
   exact ⟨rfl,by simpa [keyC] using hl⟩
  ·cases h
 ·cases h
section
variable {S:Seat} {G:List Nat} {g g':Gh} {nt:Nat} {s:St} {a:Act} {w w':World} {h:List Obj} {base:Nat} {v:V} {ws:List (Nat × Obj)}
theorem b2P (ks:List Int):KR S g true (keyC ks) (a4O ks):=by
 refine ⟨ks.map (.int .i64),rfl,by simp [keyC],(fun h=>by cases h),fun j c x hc hx=>?_⟩
 simp only [keyC,List.getElem?_map,Option.map_eq_some_iff] at hc hx
 obtain ⟨n,hn,rfl⟩:=hc
 obtain ⟨n',hn',rfl⟩:=hx
 rw [hn] at hn'
 cases hn'
 exact .int _ _
theorem b5V {ks:List Int} {x:Value} (h:RV S g (.agg (keyC ks)) x):x=a4O ks:=by
 cases h with
 | agg _ vals hs hr =>
  simp only [a4O]
  congr 1
  apply Array.ext'
  apply List.ext_getElem?
  intro j
  simp only [List.getElem?_map,Array.getElem?_toList]
  cases hj:ks[j]? with
  | none =>
   have:vals.size<=j:=by rw [← hs];simpa [keyC] using List.getElem?_eq_none_iff.1 hj
   simp [this]
  | some n =>
   have hlt:j<vals.size:=by rw [← hs];simpa [keyC] using (List.getElem?_eq_some_iff.1 hj).1
   have:=hr j (.int .i64 n) vals[j] (by simp [keyC,hj]) (Array.getElem?_eq_getElem hlt)
   rw [Array.getElem?_eq_getElem hlt]
   generalize vals[j]=y at this
   cases this
   rfl
theorem SetIs.ents {n:Nat} {f:List Int->Bool} {es:List MapEntry} {L:List (List Int)} (h:SetIs n f es L):Ents S g true false (setL L) es:=by
 refine ⟨by simp [setL,h.len],fun i e m he hm=>?_⟩
 simp only [setL,List.getElem?_map,Option.map_eq_some_iff] at he
 obtain ⟨ks,hks,rfl⟩:=he
 obtain ⟨h1,h2,h3⟩:=h.ent i ks m hks hm
 rw [h2,h3]
 refine ⟨b2P ks,[.bool true],rfl,rfl,fun _=>rfl,fun j c x hc hx=>?_⟩
 cases j with
 | zero=>simp at hc hx;subst hc;subst hx;exact .bool _
 | succ j=>simp at hc
theorem b9B {m:V} {x:Value} {n:Nat} {f:List Int->Bool} (hR:RelH S G g h w) (hm:RV S g m x) (e:setOf h m=some (n,f)) :
 ∃ b k es,x=.map (some b)/\w.heap[b]?=some (.map es k)/\a7s n f es.toList:=by
 unfold setOf at e
 split at e
 ·simp only [Option.some.injEq,Prod.mk.injEq] at e
  obtain ⟨rfl,rfl⟩:=e
  have:=hm.a8W (by simp)
  cases this with
  | iset n f r es hN hb hE =>
   obtain ⟨k,hk, -⟩:=hR.mm r es hN
   exact ⟨r,k,es,rfl,hk,hE⟩
 ·rename_i p
  have:=hm.a8W (by simp)
  cases this with
  | map r hA =>
   split at e
   ·rename_i n' f' hp
    simp only [Option.some.injEq,Prod.mk.injEq] at e
    obtain ⟨rfl,rfl⟩:=e
    obtain ⟨es,h1,h2,h3⟩:=hR.ob p _ hp
    exact ⟨_,_,es,rfl,h1,h3⟩
   ·cases e
 ·cases e
theorem b9G (hR:Rel S G g nt s a w) {n:Nat} {m key:Rand} {t kt et:TypeId} {m' key':Operand} {d:Nat} (h1:MR S G m m') (h2:MR S G key key')
 (hu:S.P.underlying t=some (.map kt et)) (hz:a7g S.P et (.sc (.bool false))) (hf:flat S.P d kt=some ⟨true,List.replicate n 1⟩) (hd:d<=100)
 (e:eff base s.h (rd S.Γ s.t) (.slook n m key)=some (v,ws)):ws=[]/\Looks S g a w (.lookup t m' key' false) v:=by
 have hm:=a0M hR h1
 have hk:=a0M hR h2
 simp only [eff] at e
 split at e
 ·rename_i n' f ks hset hks
  split at e
  ·rename_i hn
   subst hn
   simp only [Option.some.injEq,Prod.mk.injEq] at e
   obtain ⟨rfl,rfl⟩:=e
   obtain ⟨hv,hlen⟩:=b1W hks
   rw [hv] at hk
   have hkx:=b5V hk
   obtain ⟨b,k,es,hx,hb,hE⟩:=b9B hR.hp hm hset
   obtain ⟨L,hL⟩:=hE.list
   obtain ⟨r,hr,r1,r2⟩:=b1b hlen L 0 (fun k hk=>by
    obtain ⟨i,hi⟩:=List.getElem?_of_mem hk
    have hlt:i<es.toList.length:=by rw [← hL.len];exact (List.getElem?_eq_some_iff.1 hi).1
    exact (hL.ent i k _ hi (List.getElem?_eq_getElem hlt)).1)
   have kr:KR S g true (keyC ks) (a.eval key'):=by rw [hkx];exact b2P ks
   obtain ⟨y,bb,hrun,ht⟩:=b1Z (w:=w) (ok:=false) (va:=false) (z:=.sc (.bool false)) hu hz hf hd (.inr ⟨b,k,es,hx,hb,rfl⟩) hL.ents kr (by simp [keyC,hlen]) hr
   refine ⟨rfl,fun o ho=>⟨y,by simp only [execOp,ho,Sem.run_bind,hrun];rfl,?_⟩⟩
   cases hfk:f ks with
   | true =>
    obtain ⟨j,rfl⟩:=r1 ((hL.mem ks).1 hfk)
    exact .sc _ _ ht.2.a2C
   | false =>
    obtain rfl:=r2 fun hm=>by rw [(hL.mem ks).2 hm] at hfk;cases hfk
    exact ht.2
  ·cases e
 ·cases e
end
end Go.Pm
namespace Go.Pm
section
variable {S:Seat} {G:List Nat} {g g':Gh} {nt:Nat} {s:St} {a:Act} {w w':World} {h:List Obj} {base:Nat} {v:V} {ws:List (Nat × Obj)}
theorem Goes.b8h (hR:Rel S G g nt s a w) {p n n':Nat} {f f':List Int->Bool} {es:Array MapEntry} (hp:s.h[p]?=some (.set n f))
 (h1:∀ (i:Nat) m,es[i]?=some m->m.born=i) (h2:a7s n' f' es.toList) :
 Goes S G nt g g s { t:=Pm.drop [] s.t,h:=s.h.set p (.set n' f') } a a w (setBlock w (g.σ p) (.map es es.size)):=by
 have hlt:=a3e hR.hp hp rfl
 refine Goes.modify (takes:=[]) (off0:=0) hR hp rfl rfl (fun b hb=>a9G hb) (by simp [setBlock]) rfl rfl rfl ⟨es,b0l hlt,h1,h2⟩ ?_
 rintro j b ⟨cs,es,l,vals,elem,fr,ad,m,cap,e1,_⟩
 have hplt:p<s.h.length:=(List.getElem?_eq_some_iff.1 hp).1
 simp [hplt] at e1
theorem b6F (hR:Rel S G g nt s a w) {p n:Nat} {t:TypeId} (e:eff base s.h (rd S.Γ s.t) (.mkset p n)=some (v,ws)):Does S G nt g s a w (.makeMap t none) [] v (a0I s.h ws):=by
 simp only [eff] at e
 split at e
 ·rename_i hc
  simp only [Option.some.injEq,Prod.mk.injEq] at e
  obtain ⟨rfl,rfl⟩:=e
  have hp:=a3v hc
  have hσ:(g.with (base+p) w.heap.size).σ (base+p)=w.heap.size:=by simp [Gh.with]
  refine fun o' ho'=>⟨.map (some w.heap.size),_,w.alloc (.map #[] 0),_,by simp [execOp,ho',Instr.makeMap,newObj,Sem.run,World.alloc_eq],.inl rfl,
   Goes.born (takes:=[]) (off0:=0) hR hp rfl ⟨#[],heap_alloc_new _ _,fun i m h=>by simp at h,⟨fun m h=>by simp at h,fun ks=>by simp⟩⟩ ?_,.rv _ _ (.sc _ _ ?_)⟩
  ·rintro j b ⟨cs,es,l,vals,elem,fr,ad,m,cap,e1,_⟩
   have hplt:base+p<s.h.length:=(List.getElem?_eq_some_iff.1 hp).1
   simp [hplt] at e1
  ·have:=RC.map (S:=S) (g:=g.with (base+p) w.heap.size) (base+p) (.inl rfl)
   rw [hσ] at this
   exact this
 ·cases e
theorem b3w (hR:Rel S G g nt s a w) {n:Nat} {m key:Rand} {t kt et:TypeId} {m' key':Operand} {d:Nat} {o:Go.Op} (ho:o=.mapUpdate t m' key' (.const (.bool true))\/o=.insert t m' key' (.const (.bool true))) (h1:MR S G m m') (h2:MR S G key key')
 (hu:S.P.underlying t=some (.map kt et)) (hf:flat S.P d kt=some ⟨true,List.replicate n 1⟩) (hd:d<=100)
 (e:eff base s.h (rd S.Γ s.t) (.sadd n m key)=some (v,ws)):Does S G nt g s a w o [] v (a0I s.h ws):=by
 have hm:=a0M hR h1
 have hk:=a0M hR h2
 have fin:∀ W:World,(Instr.mapUpdate t (a.eval m') (a.eval key') (.bool true)).run S.P w=.ok () W->∀ o':Go.Oper,o'.op=o->(execOp a.eval o').run S.P w=.ok .skip W:=fun W hW o' ho'=>by
  rw [show Value.bool true=a.eval (.const (.bool true)) from rfl] at hW
  rcases ho with rfl|rfl<;>simp [execOp,ho',hW]
 simp only [eff] at e
 split at e
 ·rename_i p ks hp hks
  rw [hp] at hm
  obtain ⟨hA,hx⟩:=a7G hm
  obtain ⟨hv,hlen⟩:=b1W hks
  rw [hv] at hk
  have hkx:=b5V hk
  have kr:KR S g true (keyC ks) (a.eval key'):=by rw [hkx];exact b2P ks
  split at e
  ·rename_i n' f hobj
   split at e
   ·rename_i hn
    subst hn
    simp only [Option.some.injEq,Prod.mk.injEq] at e
    obtain ⟨rfl,rfl⟩:=e
    obtain ⟨es,hb,hborn,hE⟩:=hR.hp.ob p _ hobj
    obtain ⟨L,hL⟩:=hE.list
    have hck:(Instr.checkKey false 10000 kt (a.eval key')).run S.P w=.ok () w:=a6j d kt _ hf 10000 (by omega) w _ _ kr (by simp [keyC,hlen])
    have hlt:=a3e hR.hp hobj rfl
    have hLn:∀ k∈L,k.length=n':=fun k hk=>by
     obtain ⟨i,hi⟩:=List.getElem?_of_mem hk
     have hlt:i<es.toList.length:=by rw [← hL.len];exact (List.getElem?_eq_some_iff.1 hi).1
     exact (hL.ent i k _ hi (List.getElem?_eq_getElem hlt)).1
    obtain ⟨r,hr,r1,r2⟩:=b1b hlen L 0 hLn
    obtain ⟨o1,ho1,hfd⟩:=a4S hf hd kr w hL.ents.keys hr
    have hy:RV S g (.tup []) undef:=.tup [] #[] rfl fun j v w a b=>by simp at a
    by_cases hmem:ks∈L
    ·obtain ⟨i,rfl⟩:=r1 hmem
     obtain ⟨me,_,hme,rfl⟩:=a7R hfd
     obtain ⟨_,en,hen,_,heq⟩:=find_spec _ 0 i _ hr
     rw [Nat.sub_zero] at hen hme
     have hst:=b0m hf heq kr (hL.ents.2 i en me hen hme).1 w
     rw [Array.getElem?_toList] at hme
     have hiks:L[i]?=some ks:=by
      simp only [setL,List.getElem?_map,Option.map_eq_some_iff] at hen
      obtain ⟨k,hk1,rfl⟩:=hen
      have:=a7W heq
      rw [hk1]
      have hinj:keyC ks=keyC k->ks=k:=fun h=>by
       have:=congrArg (List.map fun c=>match c with|C.int _ n=>n|_=>0) h
       simp only [keyC,List.map_map] at this
       rw [show ((fun c:C=>match c with|C.int _ n=>n|_=>0) ∘ C.int .i64)=id from funext fun _=>rfl] at this
       simpa using this
      rw [hinj this]
     have hgo:=Goes.b8h (n':=n') (f':=fun x=>f x||decide (x=ks)) (es:=es.modify i fun e=>{ e with key:=a.eval key',val:=.bool true }) hR hobj (fun j m hj=>by
      rw [Array.getElem?_modify] at hj
      split at hj
      ·simp only [Option.map_eq_some_iff] at hj
       obtain ⟨m0,hm0,rfl⟩:=hj
       exact hborn j m0 hm0
      ·exact hborn j m hj) (SetIs.es (L:=L) ⟨by simp [hL.len],fun j k m hj hjm=>by
      rw [Array.getElem?_toList,Array.getElem?_modify] at hjm
      split at hjm
      ·rename_i hij
       subst hij
       simp only [Option.map_eq_some_iff] at hjm
       obtain ⟨m0,hm0,rfl⟩:=hjm
       rw [hiks] at hj
       cases hj
       exact ⟨hlen,hkx,rfl⟩
      ·exact hL.ent j k m hj (by rw [Array.getElem?_toList];exact hjm),fun k=>by
      simp only [Bool.or_eq_true,decide_eq_true_eq,hL.mem]
      constructor
      ·rintro (h|rfl)
       ·exact h
       ·exact hmem
      ·exact .inl⟩)
     exact fun o' ho'=>⟨undef,_,_,g,fin _ (by simp [Instr.mapUpdate,run_underlying hu,hx,a4D hb,hck,ho1,hme,hst,a4E hb];rfl) o' ho',.inr ⟨rfl,rfl⟩,by simpa [a0I] using hgo,.rv _ _ hy⟩
    ·obtain rfl:=r2 hmem
     have:o1=none:=hfd
     subst this
     have hgo:=Goes.b8h (n':=n') (f':=fun x=>f x||decide (x=ks)) (es:=es.push { key:=a.eval key',val:=.bool true,born:=es.size }) hR hobj (fun j m hj=>by
      rw [Array.getElem?_push] at hj
      split at hj
      ·rename_i hij;simp at hj;subst hj;exact hij.symm
      ·exact hborn j m hj) (SetIs.es (L:=L++[ks]) ⟨by simp [hL.len],fun j k m hj hjm=>by
      rw [Array.toList_push] at hjm
      by_cases hjl:j<L.length
      ·rw [List.getElem?_append_left hjl] at hj
       rw [List.getElem?_append_left (by rw [← hL.len];exact hjl)] at hjm
       exact hL.ent j k m hj hjm
      ·rw [List.getElem?_append_right (by omega)] at hj
       rw [List.getElem?_append_right (by rw [← hL.len];omega)] at hjm
       rw [← hL.len] at hjm
       cases hd:j - L.length with
       | zero =>
        rw [hd] at hj hjm
        simp at hj hjm
        subst hj;subst hjm
        exact ⟨hlen,hkx,rfl⟩
       | succ q=>rw [hd] at hj;simp at hj,fun k=>by
      simp only [Bool.or_eq_true,decide_eq_true_eq,hL.mem,List.mem_append,List.mem_singleton]⟩)
     exact fun o' ho'=>⟨undef,_,_,g,fin _ (by simp [Instr.mapUpdate,run_underlying hu,hx,a4D hb,hck,ho1,a4E hb];rfl) o' ho',.inr ⟨rfl,rfl⟩,by simpa [a0I] using hgo,.rv _ _ hy⟩
   ·cases e
  ·cases e
 ·cases e
theorem b9w (hR:Rel S G g nt s a w) {p:Nat} {x:Rand} {t kt et:TypeId} {x':Operand} (h1:MR S G x x') (hu:S.P.underlying t=some (.map kt et))
 (e:eff base s.h (rd S.Γ s.t) (.rng p x)=some (v,ws)):Does S G nt g s a w (.range t x') [] v (a0I s.h ws):=by
 have hx:=a0M hR h1
 simp only [eff] at e
 split at e
 ·rename_i n f hxv
  rw [hxv] at hx
  split at e
  ·rename_i hc
   simp only [Option.some.injEq,Prod.mk.injEq] at e
   obtain ⟨rfl,rfl⟩:=e
   have hp:=a3v hc
   have hc:=hx.a8W (by simp)
   generalize hav:a.eval x'=xv at hc
   cases hc with
   | iset n f r es hN hb hE =>
    obtain ⟨k,hk,rfl⟩:=hR.hp.mm r es hN
    have hσ:(g.with (base+p) w.heap.size).σ (base+p)=w.heap.size:=by simp [Gh.with]
    refine fun o' ho'=>⟨.pointer (some ⟨w.heap.size,0,none⟩),_,w.alloc (.mapIter (some r) es.size #[] es.size),_,by simp [execOp,ho',hav,run_range_map w t kt et r es _ hu hk],.inl rfl,
     Goes.born (takes:=[]) (off0:=0) hR hp rfl ⟨es,r,heap_alloc_new _ _,hN,hb,hE⟩ ?_,.rv _ _ (.sc _ _ ?_)⟩
    ·rintro j b ⟨cs,es,l,vals,elem,fr,ad,m,cap,e1,_⟩
     have hplt:base+p<s.h.length:=(List.getElem?_eq_some_iff.1 hp).1
     simp [hplt] at e1
    ·have:=RC.ptr (S:=S) (g:=g.with (base+p) w.heap.size) (base+p) 0 (.inl rfl)
     rw [hσ] at this
     exact this
  ·cases e
 ·cases e
end
end Go.Pm
namespace Go.Pm
section
variable {S:Seat} {G:List Nat} {g g' g'':Gh} {nt:Nat} {s s' s'':St} {a a' a'':Act} {w w' w'':World} {h:List Obj} {base:Nat} {v:V} {ws:List (Nat × Obj)} {takes:List Nat}
theorem f0m (hR:Rel S G g nt s a w) {p off:Nat} {cs ds:List C} {arr:Array Value} (hcs:s.h[p]?=some (.var cs)) (hd:Cells S g ds arr) (hle:off+ds.length<=cs.length) :
 ∃ w',(storeCells ⟨g.σ p,off,none⟩ arr.toList).run S.P w=.ok () w'/\Goes S G nt g g s { t:=s.t,h:=s.h.set p (.var (a1H cs off ds)) } a a w w':=by
 obtain ⟨vals,elem,hb,hsz,hro⟩:=hR.hp.ob p _ hcs
 have hplt:p<s.h.length:=(List.getElem?_eq_some_iff.1 hcs).1
 have hsize:arr.toList.length=ds.length:=by simp [← hd.1]
 have hst:=run_storeCells_at S.P (g.σ p) off elem arr.toList 0 vals w hb (by rw [hsize];omega) (fun u hu=>by
  obtain ⟨j,hj⟩:=List.getElem?_of_mem hu
  rw [Array.getElem?_toList] at hj
  have hjl:j<ds.length:=by rw [hd.1];exact (Array.getElem?_eq_some_iff.1 hj).1
  exact b3v (w:=w) (.rc _ _ (hd.2 j _ u (List.getElem?_eq_getElem hjl) hj)))
 rw [Nat.add_zero] at hst
 refine ⟨_,hst,?_⟩
 have hle2:off+arr.toList.length<=vals.toList.length:=by rw [hsize];simp;omega
 have hget:∀ j,(vals.toList.take off++arr.toList++vals.toList.drop (off+arr.toList.length)).toArray[j]?=if off<=j/\j<off+ds.length then arr[j - off]? else vals[j]?:=fun j=>by
  rw [List.getElem?_toArray,b6c _ _ _ _ hle2,hsize]
  simp
 have hgetc:∀ j,(a1H cs off ds)[j]?=if off<=j/\j<off+ds.length then ds[j - off]? else cs[j]?:=fun j=>by
  rw [a7z _ _ _ _ (by omega)]
 have hne:∀ b',b'≠g.σ p->(w.setRow (g.σ p) (vals.toList.take off++arr.toList++vals.toList.drop (off+arr.toList.length)).toArray).heap[b']?=w.heap[b']?:=fun b' h=>b0P h
 have hnew:=setRow_heap w (g.σ p) vals (vals.toList.take off++arr.toList++vals.toList.drop (off+arr.toList.length)).toArray elem (0,0) hb
 refine Goes.modify (takes:=[]) (off0:=0) hR hcs rfl rfl hne (by simp [World.setRow]) rfl rfl rfl ⟨_,elem,hnew,?_,fun j c u e1 e2=>?_⟩ ?_
 ·rw [a7r];simp at hle2 ⊢;omega
 ·rw [hgetc] at e1
  rw [hget] at e2
  split at e1
  ·rename_i hcj
   rw [if_pos hcj] at e2
   exact .rc _ _ (hd.2 _ c u e1 e2)
  ·rename_i hcj
   rw [if_neg hcj] at e2
   have:=hro j c u e1 e2
   cases this with
   | rc _ _ h=>exact .rc _ _ h
   | own es l b o cap ho =>
    have hcl:a1e g s.h w p j b:=⟨cs,es,l,vals,elem,(0,0),_,_,_,hcs,e1,hb,e2,rfl⟩
    exact .own _ _ _ _ _ (ho.mono (.refl g) (hne b (fun hbb=>hR.hp.cl p j b p _ hcl hcs rfl hbb.symm)) (fun _=>rfl))
 ·rintro j b ⟨cs',es,l,vals',elem',fr,ad,m,cap,e1,e2,e3,e4,rfl⟩
  simp [hplt] at e1
  subst e1
  rw [hnew] at e3
  simp only [Option.some.injEq,Obj.cells.injEq] at e3
  obtain ⟨rfl,rfl,rfl⟩:=e3
  rw [hgetc] at e2
  rw [hget] at e4
  split at e2
  ·rename_i hcj
   rw [if_pos hcj] at e4
   exact absurd rfl ((hd.2 _ _ _ e2 e4).a2a _ es l)
  ·rename_i hcj
   rw [if_neg hcj] at e4
   exact .inl ⟨cs,es,l,vals,elem,(0,0),ad,m,cap,hcs,e2,hb,e4,rfl⟩
theorem f2W {ts:Array TypeId} {x' y':Operand} {x y:Value} {o':Go.Oper} (ho:o'.op=.call { callee:=.builtin .copy,args:=#[x',y'],argTypes:=ts }) (hx:a.eval x'=x) (hy:a.eval y'=y) {r:Value}
 (hrun:∀ ty,(Builtin.copy_ ts ty #[x,y]).run S.P w=.ok r w'):(execOp a.eval o').run S.P w=.ok (.value r) w':=by
 have:=hrun o'.type
 simp [execOp,ho,resolve,invoke,builtin,hx,hy,this]
theorem f8o {ts:Array TypeId} {x':Operand} {x:Value} {o':Go.Oper} (ho:o'.op=.call { callee:=.builtin .clear,args:=#[x'],argTypes:=ts }) (hx:a.eval x'=x) {r:Value}
 (hrun:∀ ty,(Builtin.clear_ ts ty #[x]).run S.P w=.ok r w'):(execOp a.eval o').run S.P w=.ok (.value r) w':=by
 have:=hrun o'.type
 simp [execOp,ho,resolve,invoke,builtin,hx,this]
theorem f3P {kd:SK} {es k:Nat} {l:List (List C)} {p:Option Addr} {c:Nat} (h:RC S g (.sl kd es l) (.slice p l.length c)):∃ kd',RC S g (.sl kd' es (l.take k)) (.slice p (l.take k).length c):=by
 cases h with
 | slNil=>exact ⟨.nil,by simpa using RC.slNil es⟩
 | sl _ _ _ b off cap vals hk hf hc hl hp hM hr =>
  have hg:∀ {i:Nat} {e:List C},(l.take k)[i]?=some e->l[i]?=some e:=fun {i e} h=>by
   rw [List.getElem?_take] at h
   split at h
   ·exact h
   ·cases h
  exact ⟨.shared,.sl .shared es (l.take k) b off c vals (by simp) (by simp) (by simp;omega) (fun i e h=>hl i e (hg h)) (fun i e h=>hp i e (hg h)) (fun i e j h=>hM i e j (hg h)) (fun i e j c h=>hr i e j c (hg h))⟩
theorem f1I (hR:Rel S G g nt s a w) {es:Nat} {x y:Rand} {x' y':Operand} {t t2 e0:TypeId} (h1:MR S G x x') (h2:MR S G y y') (hu:S.P.underlying t=some (.slice e0)) (hs:a3o S.P e0 es) (he:0<es)
 (e:eff base s.h (rd S.Γ s.t) (.copy es x y)=some (v,ws)):Does S G nt g s a w (.call { callee:=.builtin .copy,args:=#[x',y'],argTypes:=#[t,t2] }) [] v (a0I s.h ws):=by
 have hx:=a0M hR h1
 have hy:=a0M hR h2
 simp only [eff] at e
 split at e
 ·rename_i p off n cap es' l hxv hl
  split at e
  ·cases e
  ·rename_i hes
   have hes:es'=es:=Classical.not_not.1 hes
   subst hes
   split at e
   ·rename_i cs hcs
    split at e
    ·rename_i hle
     simp only [Option.some.injEq,Prod.mk.injEq] at e
     obtain ⟨rfl,rfl⟩:=e
     rw [hxv] at hx
     generalize hxe:a.eval x'=xe at hx
     cases hx with
     | sc _ _ hx =>
      cases hx with
      | msl _ _ _ _ _ cap' hA hlen hc =>
       obtain ⟨-, -, -,hll, -,p2,c2,hys, -⟩:=a5E hR.hp he hl hy
       have hk:∃ kd,rd S.Γ s.t y=.sc (.sl kd es' l)\/∃ q,rd S.Γ s.t y=.sc (.own q es' l):=by
        unfold elems at hl
        split at hl
        ·rename_i kd es2 l2 hv
         split at hl
         ·rename_i h;subst h;cases hl;exact ⟨kd,.inl hv⟩
         ·cases hl
        ·rename_i q es2 l2 hv
         split at hl
         ·rename_i h;subst h;cases hl;exact ⟨.nil,.inr ⟨q,hv⟩⟩
         ·cases hl
        ·cases hl
       obtain ⟨kd,hyv⟩:=hk
       replace hyv:rd S.Γ s.t y=.sc (.sl kd es' l):=by
        rcases hyv with h|⟨q,h⟩
        ·exact h
        ·rw [h] at hy
         cases hy with
         | sc _ _ h=>exact absurd rfl (h.a2a _ _ _)
       rw [hyv,hys] at hy
       obtain ⟨kd',hrc⟩:=f3P (k:=n) (hy.a8W (by simp))
       obtain ⟨arr,harr,hca, -, -, -⟩:=a5E (es:=es') (l:=l.take n) hR.hp he (v:=.sc (.sl kd' es' (l.take n))) (by simp [elems]) (.sc _ _ hrc)
       have hlt:(l.take n).length=min l.length n:=by simp;omega
       obtain ⟨w',hst,hgo⟩:=f0m hR hcs hca (off:=off) (by
        rw [a2G (es:=es') fun e he=>hll e (List.mem_of_mem_take he),hlt]
        have:min l.length n*es'<=n*es':=Nat.mul_le_mul_right _ (by omega)
        omega)
       obtain ⟨i,hi,hisz⟩:=hs
       refine fun o' ho'=>⟨.int .i64 (min l.length n:Nat),_,w',g,f2W (S:=S) ho' hxe hys fun ty=>?_,.inl rfl,hgo,.rv _ _ (.sc _ _ (.int _ _))⟩
       have h0:=harr w rfl
       rw [hlt] at h0
       have h0':(Builtin.firstCells es' (min l.length n) (.slice p2 l.length c2)).run S.P w=.ok arr w:=by
        rw [← h0];cases p2<;>rfl
       simp only [Builtin.copy_,Sem.run_bind,run_underlying hu,a1u hi,hisz,Builtin.lenOf,Sem.run_pure,Result.andThen_ok,List.getElem?_toArray,List.getElem?_cons_zero,List.getElem?_cons_succ]
       have hmin:Nat.min l.length n=min l.length n:=rfl
       rw [hmin,h0']
       simp only [Result.andThen_ok,hst,Sem.run_bind,Sem.run_pure]
       rfl
    ·cases e
   ·cases e
 ·cases e
theorem f8n (hR:Rel S G g nt s a w) {es:Nat} {z:List C} {x:Rand} {x':Operand} {t e0:TypeId} (h1:MR S G x x') (hu:S.P.underlying t=some (.slice e0)) (hz:a5G S.P e0 z) (he:0<es)
 (e:eff base s.h (rd S.Γ s.t) (.clear es z x)=some (v,ws)):Does S G nt g s a w (.call { callee:=.builtin .clear,args:=#[x'],argTypes:=#[t] }) [] v (a0I s.h ws):=by
 have hx:=a0M hR h1
 simp only [eff] at e
 split at e
 ·rename_i p off n cap es' hxv
  split at e
  ·cases e
  ·rename_i hes
   obtain ⟨hes,hzl⟩:es'=es/\z.length=es:=by
    constructor
    ·exact Classical.byContradiction fun h=>hes (.inl h)
    ·exact Classical.byContradiction fun h=>hes (.inr h)
   subst hes
   split at e
   ·rename_i cs hcs
    split at e
    ·rename_i hle
     simp only [Option.some.injEq,Prod.mk.injEq] at e
     obtain ⟨rfl,rfl⟩:=e
     rw [hxv] at hx
     generalize hxe:a.eval x'=xe at hx
     cases hx with
     | sc _ _ hx =>
      cases hx with
      | msl _ _ _ _ _ cap' hA hlen hc =>
       obtain ⟨i,zv,hi,hzv,hKL⟩:=hz
       have hca:=b0V (S:=S) (g:=g) hKL n (by omega)
       have hzs:zv.cells.size=z.length:=by simpa using hKL.1.symm
       obtain ⟨w',hst,hgo⟩:=f0m hR hcs hca (off:=off) (by
        rw [a2G (es:=es') fun e he=>by rw [List.eq_of_mem_replicate he];exact hzl]
        simpa using hle)
       have key:∃ w2,(∀ ty,(Builtin.clear_ #[t] ty #[.slice (some ⟨g.σ p,off,none⟩) n cap']).run S.P w=.ok (.tuple #[]) w2)/\Goes S G nt g g s { t:=s.t,h:=s.h.set p (.var (a1H cs off (List.replicate n z).flatten)) } a a w w2:=by
        cases n with
        | zero =>
         refine ⟨w,fun ty=>by simp [Builtin.clear_,run_underlying hu],?_⟩
         have:s.h.set p (.var (a1H cs off (List.replicate 0 z).flatten))=s.h:=by
          simp only [List.replicate_zero,List.flatten_nil,a1H]
          apply List.ext_getElem?
          intro j
          rw [List.getElem?_set]
          split
          ·rename_i hj
           subst hj
           rw [hcs]
           simp [(List.getElem?_eq_some_iff.1 hcs).1]
          ·rfl
         rw [this]
         exact .refl hR
        | succ n =>
         refine ⟨w',fun ty=>?_,hgo⟩
         have hzc:Builtin.zeroCells zv.cells (n+1)=(Array.range ((n+1)*z.length)).map fun k=>zv.cells[k % zv.cells.size]!:=by
          simp only [Builtin.zeroCells,hzs]
         simp only [Builtin.clear_,Sem.run_bind,run_underlying hu,a3B hi hzv,Sem.run_pure,Result.andThen_ok,List.getElem?_toArray,List.getElem?_cons_zero,hzc]
         simp at hst
         simp [hst]
       obtain ⟨w2,hw2,hgo2⟩:=key
       exact fun o' ho'=>⟨.tuple #[],_,w2,g,f8o (S:=S) ho' hxe hw2,.inl rfl,hgo2,.rv _ _ (.tup [] #[] rfl fun j v w a b=>by simp at a)⟩
    ·cases e
   ·cases e
 ·cases e
end
end Go.Pm
namespace Go.Pm
def b0A:Act:={ tmps:=#[],defers:=[] }
abbrev a6h (S:Seat) (G:List Nat) (g g':Gh) (h h':List Obj) (w w':World):Prop:=Goes S G 0 g g' ⟨[],h⟩ ⟨[],h'⟩ b0A b0A w w'
section
variable {S:Seat} {G:List Nat} {g g' g'':Gh} {nt:Nat} {s s' s'':St} {a a' a'':Act} {w w' w'':World} {h h':List Obj}
theorem a5z {i b:Nat}:¬ a0S [] b0A.tmps i b:=by
 rintro ⟨p,es,l,ad,n,cap,h1,_⟩
 simp [get] at h1
theorem a4p {b:Nat} (hp:Perm g ⟨[],h⟩ b0A w b):a9f g h w b:=by
 rcases hp with h|⟨i,h⟩
 ·exact h
 ·exact absurd h a5z
theorem RelH.rel (hR:RelH S G g h w):Rel S G g 0 ⟨[],h⟩ b0A w :=
 ⟨hR,rfl,fun i=>.rv _ _ (.top _),fun i i' b c=>absurd c a5z,fun i b r j c=>absurd c a5z,fun i b r o c=>absurd c a5z⟩
theorem a6P (hR:Rel S G g nt s a w) {i b:Nat} (hc:a0S s.t a.tmps i b):¬ a9f g s.h w b:=by
 rintro (⟨r,o,h1,h2,h3⟩|⟨r,j,h⟩)
 ·exact hR.clT i b r o hc h1 h2 h3
 ·exact hR.exTH i b r j hc h
theorem Goes.frame (hR:Rel S G g nt s a w) (hg:a6h S G g g' s.h h' w w'):Goes S G nt g g' s ⟨s.t,h'⟩ a a w w':=by
 have hback:∀ b,b<w.heap.size->a9f g' h' w' b->a9f g s.h w b:=fun b hb hp=>a4p (hg.back b hb (.inl hp))
 refine ⟨hg.le,⟨hg.rel.hp,hR.sz,fun i=>?_,hR.exT,fun i b r j c d=>?_,fun i b r o c e hl=>?_⟩,hg.keeps.mono fun b _ hp=>.inl (a4p hp),fun b hb hp=>?_,fun b o v e=>?_,fun b es e=>?_⟩
 ·have ht:=hR.tm i
  show RT S g' w' (get s.t i) (a.tmps.getD i undef)
  generalize hv:get s.t i=v at ht
  generalize hx:a.tmps.getD i undef=x at ht
  cases ht with
  | rv _ _ h=>exact .rv _ _ (h.mono hg.le)
  | none es=>exact .none es
  | own q es l b off cap ho =>
   have hc:a0S s.t a.tmps i b:=⟨q,es,l,_,_,_,hv,hx,rfl⟩
   have hn:=a6P hR hc
   refine .own _ _ _ _ _ _ (ho.keep hg.le.im hg.le.mm (hg.keeps.same b ho.lt (fun hp=>hn (a4p hp))) fun o hoo=>?_)
   ·cases e:g'.M b o with
    | none=>rfl
    | some v' =>
     rcases hg.im b o v' e with h|h|h
     ·rw [hoo] at h;cases h
     ·have:=ho.lt;omega
     ·exact absurd (a4p h) hn
 ·exact a6P hR c (hback b (a8e hR c) (.inr ⟨r,j,d⟩))
 ·rintro rfl
  exact a6P hR c (hback _ (a8e hR c) (.inl ⟨r,o,e,hl,rfl⟩))
 ·rcases hp with h|h
  ·exact .inl (hback b hb h)
  ·exact .inr h
 ·rcases hg.im b o v e with h|h|h
  ·exact .inl h
  ·exact .inr (.inl h)
  ·exact .inr (.inr (.inl (a4p h)))
 ·rcases hg.mm b es e with h|h|h
  ·exact .inl h
  ·exact .inr (.inl h)
  ·exact .inr (.inr (.inl (a4p h)))
/-! ### Objects that die become values -/
def b0b:Obj->Bool
 | .map _ _ _ none=>true
 | .set _ _=>true
 | _=>false
theorem b0M {o:Obj} (h:b0b o=true):live o=true:=by cases o<;>simp [b0b,live] at h ⊢
theorem b5u (hR:RelH S G g h w) {r:Nat} {o:Obj} (hr:h[r]?=some o) (hm:b0b o=true):∃ es:Array MapEntry,w.heap[g.σ r]?=some (.map es es.size):=by
 have ho:=hR.ob r o hr
 cases o with
 | map ka va l ph=>obtain ⟨es,hb,_⟩:=ho;exact ⟨es,hb⟩
 | set n f=>obtain ⟨es,hb,_⟩:=ho;exact ⟨es,hb⟩
 | _=>simp [b0b] at hm
open Classical in
noncomputable def Gh.kill (g:Gh) (h:List Obj) (w:World) (D:Nat->Prop) (A:Nat->Prop):Gh where
 σ:=g.σ
 A:=A
 M:=fun b o=>if ∃ (r:Nat) (cs:List C),D r/\h[r]?=some (.var cs)/\g.σ r=b then w.cell? ⟨b,o,none⟩ else g.M b o
 N:=fun b=>if ∃ (r:Nat) (o:Obj),D r/\h[r]?=some o/\b0b o=true/\g.σ r=b then
  (match w.heap[b]? with|some (.map es _)=>some es|_=>none) else g.N b
theorem a3O (hR:RelH S G g h w) {D A:Nat->Prop} {b o:Nat} {v:Value} (e:g.M b o=some v):(g.kill h w D A).M b o=some v:=by
 simp only [Gh.kill]
 split
 ·exact hR.im b o v e
 ·exact e
theorem a3A (hR:RelH S G g h w) {D A:Nat->Prop} {b:Nat} {es:Array MapEntry} (e:g.N b=some es):(g.kill h w D A).N b=some es:=by
 simp only [Gh.kill]
 split
 ·obtain ⟨n,hn, -⟩:=hR.mm b es e
  rw [hn]
 ·exact e
theorem b2Q (hR:RelH S G g h w) {D A:Nat->Prop} (hA:∀ r,g.A r->A r):g.Le (g.kill h w D A) :=
 ⟨hA,fun _ _=>rfl,fun _ _ _ e=>a3O hR e,fun _ _ e=>a3A hR e⟩
structure Dies (h h':List Obj) (D A:Nat->Prop) (g:Gh):Prop where
 left:∀ (r:Nat) o,h'[r]?=some o->live o=true->h[r]?=some o/\¬ D r
 as:∀ r,A r->∃ o,h'[r]?=some o/\a6U o=false
 lv:∀ (r:Nat) o,h'[r]?=some o->live o=true->A r
 AA:∀ r,A r->g.A r
 /-- what is left names nothing that is no more -/
 nm:∀ (r:Nat) o,h'[r]?=some o->live o=true->∃ n,Obj.und n o/\∀ r',r' < n->g.A r'->A r'
theorem b5v (hR:RelH S G g h w) {D A:Nat->Prop} {r:Nat} {o:Obj} (hr:h[r]?=some o) (hl:live o=true) (hD:¬ D r) (k:Nat):(g.kill h w D A).M (g.σ r) k=none:=by
 simp only [Gh.kill]
 split
 ·rename_i hx
  obtain ⟨r',cs,h1,h2,h3⟩:=hx
  have:=hR.inj r' r _ o h2 hr rfl hl h3
  subst this
  exact absurd h1 hD
 ·exact hR.djM r o hr hl k
theorem b5w (hR:RelH S G g h w) {D A:Nat->Prop} {r:Nat} {o:Obj} (hr:h[r]?=some o) (hl:live o=true) (hD:¬ D r):(g.kill h w D A).N (g.σ r)=none:=by
 simp only [Gh.kill]
 split
 ·rename_i hx
  obtain ⟨r',o',h1,h2,hm,h3⟩:=hx
  have:=hR.inj r' r _ o h2 hr (b0M hm) hl h3
  subst this
  exact absurd h1 hD
 ·exact hR.djN r o hr hl
theorem a6p {D A:Nat->Prop} {b:Nat} (hb:∀ (r:Nat) o,h[r]?=some o->live o=true->g.σ r≠b) (k:Nat):(g.kill h w D A).M b k=g.M b k:=by
 simp only [Gh.kill]
 split
 ·rename_i hx
  obtain ⟨r',cs,h1,h2,h3⟩:=hx
  exact absurd h3 (hb r' _ h2 rfl)
 ·rfl
theorem RC.keep {c:C} {v:Value} {n:Nat} (h:RC S g c v) (hu:c.under n=true) (hA:∀ r,r<n->g.A r->g'.A r) (hσ:g'.σ=g.σ) (hM:∀ b o v,g.M b o=some v->g'.M b o=some v) (hN:∀ b es,g.N b=some es->g'.N b=some es):RC S g' c v:=by
 have h1:=h.cut hu
 refine h1.mono ⟨fun r hr=>hA r hr.2 hr.1,fun r _=>by rw [hσ];rfl,hM,hN⟩
theorem RV.keep {c:V} {v:Value} {n:Nat} (h:RV S g c v) (hu:c.under n=true) (hA:∀ r,r<n->g.A r->g'.A r) (hσ:g'.σ=g.σ) (hM:∀ b o v,g.M b o=some v->g'.M b o=some v) (hN:∀ b es,g.N b=some es->g'.N b=some es):RV S g' c v:=by
 have h1:=h.cut hu
 refine h1.mono ⟨fun r hr=>hA r hr.2 hr.1,fun r _=>by rw [hσ];rfl,hM,hN⟩
theorem RelH.kill (hR:RelH S G g h w) {D A:Nat->Prop} (hd:Dies h h' D A g):RelH S G (g.kill h w D A) h' w:=by
 have hcl:∀ r j b,a1e (g.kill h w D A) h' w r j b->a1e g h w r j b:=by
  rintro r j b ⟨cs,es,l,vals,elem,fr,ad,n,cap,h1,h2,h3,h4,h5⟩
  exact ⟨cs,es,l,vals,elem,fr,ad,n,cap,(hd.left r _ h1 rfl).1,h2,h3,h4,h5⟩
 refine ⟨fun r o e=>?_,hd.as,hd.lv,fun r r' o o' e e' hl hl' hs=>hR.inj r r' o o' (hd.left r o e hl).1 (hd.left r' o' e' hl').1 hl hl' hs,fun b k v e=>?_,fun b es e=>?_,fun r o e hl k=>b5v hR (hd.left r o e hl).1 hl (hd.left r o e hl).2 k,
  fun r o e hl=>b5w hR (hd.left r o e hl).1 hl (hd.left r o e hl).2,fun id hid=>?_,fun r j r' j' b c c'=>hR.ex r j r' j' b (hcl _ _ _ c) (hcl _ _ _ c'),fun r j b r' o c e hl=>hR.cl r j b r' o (hcl _ _ _ c) (hd.left r' o e hl).1 hl⟩
 ·by_cases hl:live o=true
  ·obtain ⟨e0,hD⟩:=hd.left r o e hl
   have ho:=hR.ob r o e0
   obtain ⟨n,hord,hA⟩:=hd.nm r o e hl
   cases o with
   | dead=>trivial
   | free=>trivial
   | var cs =>
    obtain ⟨vals,elem,hb,hs,hro⟩:=ho
    refine ⟨vals,elem,hb,hs,fun j c x e1 e2=>?_⟩
    have:=hro j c x e1 e2
    cases this with
    | rc _ _ hrc=>exact .rc _ _ (hrc.keep (a7B hord e1) hA rfl (fun _ _ _ e=>a3O hR e) (fun _ _ e=>a3A hR e))
    | own es l b off cap hown =>
     have hclm:a1e g h w r j b:=⟨cs,es,l,vals,elem,(0,0),_,_,_,e0,e1,hb,e2,rfl⟩
     exact .own _ _ _ _ _ (hown.keep (fun _ _ _ e=>a3O hR e) (fun _ _ e=>a3A hR e) rfl fun k hk=>by
      rw [a6p (fun r' o' e' hl'=>hR.cl r j b r' o' hclm e' hl')];exact hk)
   | map ka va l ph =>
    obtain ⟨es,hb,h3,h4,h5,h6⟩:=ho
    have kr:∀ {agg cs v},C.a0v cs=true->KR S g agg cs v->KR S (g.kill h w D A) agg cs v:=fun hp ⟨vs,k1,k2,k3,k4⟩ =>
     ⟨vs,k1,k2,k3,fun j c x a b=>(k4 j c x a b).a3I (a2d hp a) (fun _ _ _ e=>a3O hR e) (fun _ _ e=>a3A hR e)⟩
    exact ⟨es,hb,h3,h4,fun i e m a b=>let ⟨x,y,z1,z2⟩:=h5 i e m a b;⟨kr z1 x,kr z2 y,z1,z2⟩,fun p z m a b=>let ⟨x,y,z1,z2⟩:=h6 p z m a b;⟨kr z1 x,kr z2 y,z1,z2⟩⟩
   | set n f=>exact ho
   | iter n f =>
    obtain ⟨es,r',hb,h0,h3,h4⟩:=ho
    exact ⟨es,r',hb,a3A hR h0,h3,h4⟩
   | loop st pend t ps x y =>
    obtain ⟨L,n',hb,h3,h4,h5,h6,h7,h8,h9,h10⟩:=ho
    refine ⟨L,n',hb,h3,h4,h5,h6,h7,h8,fun i=>?_,h10⟩
    have hi:=h9 i
    have hu:=hord i
    exact hi.keep hu hA rfl (fun _ _ _ e=>a3O hR e) (fun _ _ e=>a3A hR e)
  ·cases o<;>first|trivial|exact absurd rfl hl
 ·simp only [Gh.kill] at e
  split at e
  ·exact e
  ·exact hR.im b k v e
 ·simp only [Gh.kill] at e
  split at e
  ·rename_i hx
   obtain ⟨r',o',h1,h2,hm,rfl⟩:=hx
   obtain ⟨es',hes⟩:=b5u hR h2 hm
   rw [hes] at e
   simp only [Option.some.injEq] at e
   subst e
   exact ⟨_,hes,rfl⟩
  ·exact hR.mm b es e
 ·exact (hR.gl id hid).a3I (by rfl) (fun _ _ _ e=>a3O hR e) (fun _ _ e=>a3A hR e)
/-! ### Room for what a region allocates -/
theorem b4U {n r:Nat} {o:Obj} (e:(h++List.replicate n .free)[r]?=some o):h[r]?=some o\/o=.free:=by
 by_cases hr:r<h.length
 ·rw [List.getElem?_append_left hr] at e;exact .inl e
 ·rw [List.getElem?_append_right (by omega)] at e
  exact .inr (List.eq_of_mem_replicate (List.mem_of_getElem? e))
theorem Goes.room (hR:Rel S G g nt s a w) (n:Nat):Goes S G nt g g s { s with h:=s.h++List.replicate n .free } a a w w:=by
 have hlv:∀ (r:Nat) o,(s.h++List.replicate n .free)[r]?=some o->live o=true->s.h[r]?=some o:=fun r o e hl=>by
  rcases b4U e with h|rfl
  ·exact h
  ·simp [live] at hl
 have hcl:∀ r j b,a1e g (s.h++List.replicate n .free) w r j b->a1e g s.h w r j b:=by
  rintro r j b ⟨cs,es,l,vals,elem,fr,ad,m,cap,h1,h2⟩
  exact ⟨cs,es,l,vals,elem,fr,ad,m,cap,hlv r _ h1 rfl,h2⟩
 refine ⟨.refl g,⟨⟨fun r o e=>?_,fun r hA=>?_,fun r o e hl=>hR.hp.lv r o (hlv r o e hl) hl,fun r r' o o' e e' hl hl' hs=>hR.hp.inj r r' o o' (hlv r o e hl) (hlv r' o' e' hl') hl hl' hs,hR.hp.im,hR.hp.mm,
  fun r o e hl=>hR.hp.djM r o (hlv r o e hl) hl,fun r o e hl=>hR.hp.djN r o (hlv r o e hl) hl,hR.hp.gl,fun r j r' j' b c c'=>hR.hp.ex r j r' j' b (hcl _ _ _ c) (hcl _ _ _ c'),fun r j b r' o c e hl=>hR.hp.cl r j b r' o (hcl _ _ _ c) (hlv r' o e hl) hl⟩,
  hR.sz,hR.tm,hR.exT,fun i b r j c d=>hR.exTH i b r j c (hcl _ _ _ d),fun i b r o c e hl=>hR.clT i b r o c (hlv r o e hl) hl⟩,.refl _ w,fun b _ hp=>?_,fun _ _ _ h=>.inl h,fun _ _ h=>.inl h⟩
 ·rcases b4U e with h|rfl
  ·exact hR.hp.ob r o h
  ·trivial
 ·obtain ⟨o,ho,hf⟩:=hR.hp.as r hA
  exact ⟨o,by rw [List.getElem?_append_left (List.getElem?_eq_some_iff.1 ho).1];exact ho,hf⟩
 ·rcases hp with (⟨r,o,h1,h2,h3⟩|⟨r,j,hc⟩)|hc
  ·exact .inl (.inl ⟨r,o,hlv r o h1 h2,h2,h3⟩)
  ·exact .inl (.inr ⟨r,j,hcl _ _ _ hc⟩)
  ·exact .inr hc
end
end Go.Pm
namespace Go.Pm
section
variable {S:Seat} {G:List Nat} {g g' g'' g1:Gh} {nt:Nat} {s s' s'' s1:St} {a a' a'' a1:Act} {w w' w'' w1:World} {h h':List Obj} {base:Nat} {v:V} {ws:List (Nat × Obj)}
theorem b0N {D A:Nat->Prop} (hd:Dies h h' D A g) {r j b:Nat} (hc:a1e (g.kill h w D A) h' w r j b):a1e g h w r j b:=by
 obtain ⟨cs,es,l,vals,elem,fr,ad,n,cap,h1,h2,h3,h4,h5⟩:=hc
 exact ⟨cs,es,l,vals,elem,fr,ad,n,cap,(hd.left r _ h1 rfl).1,h2,h3,h4,h5⟩
theorem Goes.kills (hG:Goes S G nt g g1 s s1 a a1 w w1) {D A:Nat->Prop} (hd:Dies s1.h h' D A g1) (hA:∀ r,g.A r->A r) {t':List (Nat × V)} (ht:∀ i,RT S (g1.kill s1.h w1 D A) w1 (get t' i) (a1.tmps.getD i undef))
 (hct:∀ i b,a0S t' a1.tmps i b->a0S s1.t a1.tmps i b):Goes S G nt g (g1.kill s1.h w1 D A) s ⟨t',h'⟩ a a1 w w1:=by
 have hR:=hG.rel
 refine ⟨⟨hA,fun r h=>hG.le.eq r h,fun b o v e=>a3O hR.hp (hG.le.im b o v e),fun b es e=>a3A hR.hp (hG.le.mm b es e)⟩,
  ⟨hR.hp.kill hd,hR.sz,ht,fun i i' b c c'=>hR.exT i i' b (hct i b c) (hct i' b c'),fun i b r j c d=>hR.exTH i b r j (hct i b c) (b0N hd d),fun i b r o c e hl=>hR.clT i b r o (hct i b c) (hd.left r o e hl).1 hl⟩,
  hG.keeps,fun b hb hp=>hG.back b hb ?_,fun b o v e=>?_,fun b es e=>?_⟩
 ·rcases hp with (⟨r,o,h1,h2,h3⟩|⟨r,j,hc⟩)|⟨i,hc⟩
  ·exact .inl (.inl ⟨r,o,(hd.left r o h1 h2).1,h2,h3⟩)
  ·exact .inl (.inr ⟨r,j,b0N hd hc⟩)
  ·exact .inr ⟨i,hct i b hc⟩
 ·simp only [Gh.kill] at e
  split at e
  ·rename_i hx
   obtain ⟨r,cs,h1,h2,h3⟩:=hx
   by_cases hb:b<w.heap.size
   ·exact .inr (.inr (hG.back b hb (.inl (.inl ⟨r,_,h2,rfl,h3⟩))))
   ·exact .inr (.inl (by omega))
  ·exact hG.im b o v e
 ·simp only [Gh.kill] at e
  split at e
  ·rename_i hx
   obtain ⟨r,o,h1,h2,hm,h3⟩:=hx
   by_cases hb:b<w.heap.size
   ·exact .inr (.inr (hG.back b hb (.inl (.inl ⟨r,_,h2,b0M hm,h3⟩))))
   ·exact .inr (.inl (by omega))
  ·exact hG.mm b es e
theorem RelH.und (hR:RelH S G g h w) {r:Nat} {o:Obj} (e:h[r]?=some o):Obj.und h.length o:=by
 have ho:=hR.ob r o e
 cases o with
 | dead=>trivial
 | free=>trivial
 | map ka va l ph=>trivial
 | set n f=>trivial
 | iter n f=>trivial
 | var cs =>
  obtain ⟨vals,elem,hb,hs,hro⟩:=ho
  refine a8v fun j c hj=>?_
  have hlt:j<vals.size:=by have:=(List.getElem?_eq_some_iff.1 hj).1;omega
  have:=hro j c _ hj (Array.getElem?_eq_getElem hlt)
  generalize vals[j]=v at this
  cases this with
  | rc _ _ h=>exact h.under fun r hA=>A_lt hR hA
  | own=>rfl
 | loop st pend t ps a b =>
  obtain ⟨L,n,hb,h1,h2,h3,h4,h5,h6,h7,h8⟩:=ho
  exact fun i=>(h7 i).under fun r hA=>A_lt hR hA
theorem b0Z (hR:RelH S G g h w) {p:Nat} {o:Obj} (hp:h[p]?=some o):Dies h (h.set p .dead) (fun r=>r=p) g.A g:=by
 refine ⟨fun r o1 e hl=>?_,fun r hA=>?_,fun r o1 e hl=>?_,fun r h=>h,fun r o1 e hl=>?_⟩
 ·rcases a3H e with ⟨rfl,rfl,_⟩|⟨hr,e⟩
  ·simp [live] at hl
  ·exact ⟨e,hr⟩
 ·by_cases hr:r=p
  ·subst hr
   have:=(List.getElem?_eq_some_iff.1 hp).1
   exact ⟨.dead,by simp [this],rfl⟩
  ·rw [a5p hr];exact hR.as r hA
 ·rcases a3H e with ⟨rfl,rfl,_⟩|⟨hr,e⟩
  ·simp [live] at hl
  ·exact hR.lv r o1 e hl
 ·rcases a3H e with ⟨rfl,rfl,_⟩|⟨hr,e⟩
  ·simp [live] at hl
  ·exact ⟨_,hR.und e,fun _ _ h=>h⟩
theorem a8A (hR:Rel S G g nt s a w) {D:Nat->Prop} (i:Nat):RT S (g.kill s.h w D g.A) w (get s.t i) (a.tmps.getD i undef):=by
 have ht:=hR.tm i
 generalize hv:get s.t i=v at ht
 generalize hx:a.tmps.getD i undef=x at ht
 have hle:g.Le (g.kill s.h w D g.A):=b2Q hR.hp (fun _ h=>h)
 cases ht with
 | rv _ _ h=>exact .rv _ _ (h.mono hle)
 | none es=>exact .none es
 | own q es l b off cap ho =>
  have hc:a0S s.t a.tmps i b:=⟨q,es,l,_,_,_,hv,hx,rfl⟩
  exact .own _ _ _ _ _ _ (ho.keep hle.im hle.mm rfl fun o hoo=>by
   rw [a6p (fun r o e hl=>hR.clT i b r o hc e hl)];exact hoo)
theorem b0Y (hR:RelH S G g h w) {D A:Nat->Prop} {p n:Nat} {f:List Int->Bool} (hp:h[p]?=some (.set n f)) (hD:D p) :
 RC S (g.kill h w D A) (.iset n f) (.map (some (g.σ p))):=by
 obtain ⟨es,hb,h1,h2⟩:=hR.ob p _ hp
 have hN:(g.kill h w D A).N (g.σ p)=some es:=by
  simp only [Gh.kill]
  rw [if_pos ⟨p,_,hD,hp,rfl,rfl⟩,hb]
 exact .iset n f _ es hN h1 h2
theorem b7G (hR:Rel S G g nt s a w) {p n:Nat} {t:TypeId} (e:eff base s.h (rd S.Γ s.t) (.kset p n)=some (v,ws)):Does S G nt g s a w (.makeMap t none) [] v (a0I s.h ws):=by
 simp only [eff] at e
 split at e
 ·rename_i hc
  simp only [Option.some.injEq,Prod.mk.injEq] at e
  obtain ⟨rfl,rfl⟩:=e
  have hp:=a3v hc
  have hplt:base+p<s.h.length:=(List.getElem?_eq_some_iff.1 hp).1
  have hσ:(g.with (base+p) w.heap.size).σ (base+p)=w.heap.size:=by simp [Gh.with]
  have hb:Goes S G nt g (g.with (base+p) w.heap.size) s { t:=Pm.drop [] s.t,h:=s.h.set (base+p) (.set n fun _=>false) } a a w (w.alloc (.map #[] 0)):=by
   refine Goes.born (takes:=[]) (off0:=0) hR hp rfl ⟨#[],heap_alloc_new _ _,fun i m h=>by simp at h,⟨fun m h=>by simp at h,fun ks=>by simp⟩⟩ ?_
   rintro j b ⟨cs,es,l,vals,elem,fr,ad,m,cap,e1,_⟩
   simp [hplt] at e1
  have hget:(s.h.set (base+p) (.set n fun _=>false))[base+p]?=some (.set n fun _=>false):=by simp [hplt]
  have hk:=hb.kills (b0Z hb.rel.hp hget) hb.le.as (a8A hb.rel) (fun _ _ h=>h)
  have hv:=b0Y (D:=fun r=>r=base+p) (A:=(g.with (base+p) w.heap.size).A) hb.rel.hp hget rfl
  rw [hσ] at hv
  rw [List.set_set] at hk
  exact fun o' ho'=>⟨.map (some w.heap.size),_,w.alloc (.map #[] 0),_,by simp [execOp,ho',Instr.makeMap,newObj,Sem.run,World.alloc_eq],.inl rfl,hk,.rv _ _ (.sc _ _ hv)⟩
 ·cases e
end
end Go.Pm
namespace Go.Pm
def RVs (S:Seat) (g:Gh) (vs:List V) (xs:List Value):Prop:=vs.length=xs.length/\∀ (j:Nat) v x,vs[j]?=some v->xs[j]?=some x->RV S g v x
def a3j (S:Seat) (G:List Nat) (g:Gh) (h h':List Obj) (w:World) (v:V) (e:Ending) (w':World):Prop :=
 ∃ x g',e=.returned x/\a6h S G g g' h h' w w'/\RV S g' v x
def SimK (S:Seat) (G:List Nat) (K:a1n):Prop :=
 ∀ fk vs h v h',K fk vs h=some (v,h')->∀ g w xs,RelH S G g h w->RVs S g vs xs →
  match fk with
  | .fn id=>(∃ fn,S.P.funcs[S.fm id]?=some fn/\fn.name ≠ "runtime.NumGoroutine"/\fn.body≠none)/\CallsIn Fence.wide 0 S.P (S.fm id) xs.toArray w (a3j S G g h h' w v)
  | .yield l=>∃ f tmps a b,(Instr.yield (g.σ l) xs.toArray).run S.P w=.ok (.round (g.σ l) f tmps a b) w/\RoundIn Fence.wide 0 S.P (g.σ l) f tmps a b w (a3j S G g h h' w v)
section
variable {S:Seat} {G:List Nat} {g g' g'':Gh} {nt:Nat} {s s' s'':St} {a a' a'':Act} {w w' w'':World} {h h':List Obj} {base:Nat} {v:V} {ws:List (Nat × Obj)}
theorem a0W (hR:Rel S G g nt s a w) {o:Go.Op} (hl:ws=[]/\Looks S g a w o v):Does S G nt g s a w o [] v (a0I s.h ws):=by
 obtain ⟨rfl,hl⟩:=hl
 exact hl.does hR
theorem f1W (hR:Rel S G g nt s a w) {i:Nat} {t e0:TypeId} (hu:S.P.underlying t=some (.slice e0)) (e:eff base s.h (rd S.Γ s.t) (.len 1 (.pk i))=some (v,ws)) :
 ws=[]/\Looks S g a w (.call { callee:=.builtin .len,args:=#[.tmp i],argTypes:=#[t] }) v:=by
 by_cases ho:∃ es l,get s.t i=.sc (.own true es l)
 ·obtain ⟨es,l,ho⟩:=ho
  have ht:=hR.tm i
  rw [ho] at ht
  have hrd:rd S.Γ s.t (.pk i)=.sc (.sl (kindOf l) es l):=by simp only [rd,ho,V.peek]
  simp only [eff,hrd,Option.some.injEq,Prod.mk.injEq] at e
  obtain ⟨rfl,rfl⟩:=e
  have hav:∃ b cap,a.eval (.tmp i)=.slice b l.length cap:=by
   show ∃ b cap,a.tmps.getD i undef=.slice b l.length cap
   generalize a.tmps.getD i undef=x at ht
   cases ht with
   | rv _ _ h =>
    cases h with
    | sc _ _ h=>exact absurd rfl (h.a2a _ _ _)
   | own _ _ _ b off cap _=>exact ⟨_,_,rfl⟩
   | none _=>exact ⟨_,_,rfl⟩
  obtain ⟨b,cap,hav⟩:=hav
  exact ⟨rfl,fun o' ho'=>⟨_,by simp [execOp,ho',resolve,invoke,builtin,Builtin.len_,run_underlying hu,hav,goInt],.sc _ _ (.int _ _)⟩⟩
 ·have hrd:rd S.Γ s.t (.pk i)=rd S.Γ s.t (.t i):=by
   simp only [rd,V.peek]
   split
   ·rename_i es l h;exact absurd ⟨es,l,h⟩ ho
   ·rfl
  have e':eff base s.h (rd S.Γ s.t) (.len 1 (.t i))=some (v,ws):=by
   simp only [eff, ← hrd]
   exact e
  exact c2g hR (.t i) (.inr (.inl ⟨rfl,e0,hu⟩)) e'
theorem b6f (hR:Rel S G g nt s a w) {o:Op} {o':Go.Op} (hm:MOp S G o o') (hc:o.plain=true) (e:eff base s.h (rd S.Γ s.t) o=some (v,ws)) :
 Does S G nt g s a w o' o.takes v (a0I s.h ws):=by
 cases hm with
 | mv x x' h=>obtain ⟨rfl,hd⟩:=b6e hR h (.inl rfl) e;exact hd
 | asg x x' h=>obtain ⟨rfl,hd⟩:=b6e hR h (.inr rfl) e;exact hd
 | pick c a b c' a' b' h1 h2 h3=>exact a0W hR (c1i hR h1 h2 h3 e)
 | alloc n z t hz=>exact b6p hR hz e
 | box n x t x' h=>exact b8A hR h e
 | build z ps t ps' hz hp hr=>exact a0W hR (b8B hR hz hp hr e)
 | bslice es n z ps t ps' el hu hs hz hn he hi hr=>exact b5j hR hu hs hz hn he hi hr e
 | mkslice es n z t el i hu hi hs hz hn he hb=>exact b4G hR hu hi hs hz hn he hb e
 | load n x t x' h hs=>exact a0W hR (c0Y hR h hs e)
 | loadT x t x' h hs=>exact b6B hR h hs e
 | store n x v t x' v' h h2 hs =>
  have hx:x.takes=[]:=by cases h<;>rfl
  have:=b6Y hR h h2 hs e
  simp only [Op.takes,hx,List.nil_append]
  exact this
 | bin op x y t x' y' t2 h h2=>exact a0W hR (c1S hR h h2 e)
 | eqf neg ty x y t x' y' t2 d h h2 hf hd hty hg=>exact a0W hR (c1Y hR h h2 hf hd hty hg e)
 | isnil kd neg x t x' y t2 d h hu hy=>exact a0W hR (b9d hR h hu hy e)
 | un op x t x' h=>exact a0W hR (c5G hR h e)
 | conv k x s d x' ee h hd hs ht=>exact a0W hR (c0K hR h hd hs e)
 | mkf id sh first cap first' cap' h1 h2=>exact a0W hR (c2k hR h1 h2 e)
 | mkmap n ka va t=>exact b6E hR e
 | mkset p n t=>exact b6F hR e
 | kset p n t=>exact b7G hR e
 | slook n m key t m' key' kt et d h h2 hu hz hk hd=>exact a0W hR (b9G hR h h2 hu hz hk hd e)
 | sadd n m key t m' key' kt et d h h2 hu hk hd=>exact b3w hR (.inl rfl) h h2 hu hk hd e
 | sins n m key t m' key' kt et d h h2 hu hk hd=>exact b3w hR (.inr rfl) h h2 hu hk hd e
 | rng p x t x' kt et h hu=>exact b9w hR h hu e
 | slice es x lo hi mx t x' lo' hi' mx' el h h1 h2 h3 hu hs=>exact a0W hR (b9F hR h h1 h2 h3 hu hs e)
 | slArr n es x lo hi mx t x' lo' hi' mx' el h h1 h2 h3 hu hs=>exact a0W hR (b9D hR h h1 h2 h3 hu hs e)
 | faddr off x t x' i fs f h hu hf ho hs=>exact a0W hR (b8P hR h hu hf ho hs e)
 | field off n x t x' i fs f h hu hf ho hs=>exact a0W hR (b8Q hR h hu hf ho hs e)
 | iaddr es x i t x' i' el h h2 hu hs=>exact a0W hR (b8Y hR h h2 hu hs e)
 | iarr len es x i t x' i' el h h2 hu hs=>exact a0W hR (c0V hR h h2 hu hs e)
 | index len es n x i t x' i' el h h2 hu hs hn=>exact a0W hR (b9b hR h h2 hu hs hn e)
 | istr x i t x' i' h h2 hu=>exact a0W hR (c0W hR h h2 hu e)
 | lookup ok ty z m key t m' key' kt et d h h2 hu hz hk hd=>exact a0W hR (b7Q hR h h2 hu hz hk hd e)
 | mupd ty m key y t m' key' y' kt et d h h2 h3 hu hk hd=>exact b3n hR (.inl rfl) h h2 h3 hu hk hd e
 | ins ty m key y t m' key' y' kt et d h h2 h3 hu hk hd=>exact b3n hR (.inr rfl) h h2 h3 hu hk hd e
 | ext x i x' h=>exact a0W hR (c2a hR h e)
 | len k x x' t h hu=>exact a0W hR (c2g hR h hu e)
 | lenArr n x' t hu=>exact a0W hR (b7K hu e)
 | min x xs x' xs' ts h h2=>exact a0W hR (c2j hR h h2 e)
 | max x xs x' xs' ts h h2=>exact a0W hR (c2i hR h h2 e)
 | append es x y x' y' t t2 h h2 T =>
  have hy:y.takes=[]:=by cases h2<;>rfl
  obtain ⟨rfl,hd⟩:=b5h hR T h h2 e
  simp only [Op.takes,hy,List.append_nil]
  exact hd
 | appendP es x y x' y' t t2 h h2 T =>
  have hy:y.takes=[]:=by cases h2<;>rfl
  obtain ⟨rfl,hd⟩:=f8m hR T h h2 e
  simp only [Op.takes,hy,List.append_nil]
  exact hd
 | appendM a0 es x y x' y' t t2 h h2 T=>exact b3Y hR T h h2 e
 | copy es x y x' y' t t2 el h h2 hu hs he=>exact f1I hR h h2 hu hs he e
 | clear es z x x' t el h hu hz he=>exact f8n hR h hu hz he e
 | lenP i t el hu=>exact a0W hR (f1W hR hu e)
 | late o o' hp h=>simp [Op.plain] at hc
 | nilchk x x' h=>exact a0W hR (b7W hR h e)
 | call p f args f' args' ts h h2=>simp [Op.plain] at hc
 | callP f args f' args' ts h h2=>simp [Op.plain] at hc
def a1W:Option Nat->Fence
 | none=>Fence.wide
 | some l=>Fence.wide.inRound l
theorem a9w (ro:Option Nat):(a1W ro).round=ro:=by cases ro<;>rfl
theorem b1H (ro:Option Nat) (f:FuncId):(a1W ro).fn f:=by cases ro<;>trivial
theorem a9v (ro:Option Nat):(a1W ro).depth=none:=by cases ro<;>rfl
theorem b3D {ro:Option Nat} {f:FuncId} {args:Array Value} {R:Ending->World->Prop} (h:CallsIn Fence.wide 0 S.P f args w R):CallsIn (a1W ro) 0 S.P f args w R:=by
 cases ro with
 | none=>exact h
 | some l=>exact h
theorem b2D {ro:Option Nat} {l:Nat} {f:FuncId} {tmps:Array Value} {x y:Code} {R:Ending->World->Prop} (h:RoundIn Fence.wide 0 S.P l f tmps x y w R):RoundIn (a1W ro) 0 S.P l f tmps x y w R:=by
 cases ro with
 | none=>exact h
 | some l=>exact h
theorem b7X {o:Op} {o':Go.Op} (hm:MOp S G o o'):∀ c,o'≠.defer c:=by
 induction hm with
 | late o o' hp h ih=>exact ih
 | _=>intro c hc;cases hc
theorem b2y (hR:Rel S G g nt s a w) {ops:Array Go.Oper} {o:Oper} {o':Go.Oper} (hm:MOper S G nt ops o o') {b:Bool} (e:wanted o s.t=some b):Region.wanted o' (yielded ops a.tmps)=b:=by
 have hg:=hm.guard
 unfold wanted at e
 unfold Region.wanted
 cases h1:o.guard with
 | none =>
  cases h2:o'.guard with
  | none =>
   rw [h1] at e
   simpa using e
  | some q=>rw [h1,h2] at hg;exact hg.elim
 | some p =>
  obtain ⟨sl,wnt⟩:=p
  cases h2:o'.guard with
  | none=>rw [h1,h2] at hg;exact hg.elim
  | some q =>
   obtain ⟨j,b'⟩:=q
   rw [h1,h2] at hg
   rw [h1] at e
   obtain ⟨rfl,hj⟩:=hg
   dsimp only at e ⊢
   simp only [yielded,hj]
   have ht:=hR.tm sl
   have hgd:a.tmps.getD sl undef=(a.tmps[sl]?).getD undef:=by simp [Array.getD_eq_getD_getElem?]
   rw [hgd] at ht
   split at e
   ·rename_i b0 hb
    rw [hb] at ht
    simp only [Option.some.injEq] at e
    subst e
    cases hx:a.tmps[sl]? with
    | none =>
     rw [hx] at ht
     exfalso
     cases ht with
     | rv _ _ h=>have:=h.a5S;simp [undef] at this
    | some x =>
     rw [hx] at ht
     cases ht with
     | rv _ _ h =>
      have:=h.a5S
      simp only [Option.getD_some] at this
      subst this
      simp only [Option.bind_some,hx]
      cases b0<;>cases wnt<;>rfl
   ·rename_i hb
    rw [hb] at ht
    simp only [Option.some.injEq] at e
    subst e
    cases hx:a.tmps[sl]? with
    | none=>simp [hx]
    | some x =>
     rw [hx] at ht
     cases ht with
     | rv _ _ h =>
      cases h with
      | tup _ ws hs _=>simp [hx]
   ·cases e
theorem b0s:∀ {sh:List (Option Nat)} {cs:List C} {fs:List Value} {us:List V} {ys:List Value},a2F sh cs=some us->a2J sh fs=some ys->fs.length=cs.length →
 (∀ (j:Nat) c x,cs[j]?=some c->fs[j]?=some x->RC S g c x)->RVs S g us ys
 | [],[],[],us,ys,h1,h2,_,_=>by
  simp only [a2F,a2J,Option.some.injEq] at h1 h2
  subst h1;subst h2
  exact ⟨rfl,fun j v x h=>by simp at h⟩
 | [],[],_::_,_,_,_,h2,_,_=>by simp [a2J] at h2
 | [],_::_,_,_,_,h1,_,_,_=>by simp [a2F] at h1
 | none::sh,[],_,_,_,h1,_,_,_=>by simp [a2F] at h1
 | none::sh,c::cs,[],_,_,_,h2,_,_=>by simp [a2J] at h2
 | none::sh,c::cs,f::fs,us,ys,h1,h2,hl,hr=>by
  simp only [a2F,a2J,Option.map_eq_some_iff] at h1 h2
  obtain ⟨us',h1,rfl⟩:=h1
  obtain ⟨ys',h2,rfl⟩:=h2
  have ih:=b0s h1 h2 (by simpa using hl) (fun j c x a b=>hr (j+1) c x (by simpa using a) (by simpa using b))
  refine ⟨by simp [ih.1],fun j v x a b=>?_⟩
  rcases j with _|j
  ·simp at a b;subst a;subst b;exact .sc _ _ (hr 0 _ _ rfl rfl)
  ·exact ih.2 j v x (by simpa using a) (by simpa using b)
 | some n::sh,cs,fs,us,ys,h1,h2,hl,hr=>by
  have h1':(if n<=cs.length then (a2F sh (cs.drop n)).map (V.agg (cs.take n)::·) else none)=some us:=by
   rw [← h1];cases cs<;>rfl
  have h2':(if n<=fs.length then (a2J sh (fs.drop n)).map (Value.agg (fs.take n).toArray::·) else none)=some ys:=by
   rw [← h2];cases fs<;>rfl
  split at h1'
  ·rename_i hn
   rw [if_pos (by omega)] at h2'
   simp only [Option.map_eq_some_iff] at h1' h2'
   obtain ⟨us',h1',rfl⟩:=h1'
   obtain ⟨ys',h2',rfl⟩:=h2'
   have ih:=b0s h1' h2' (by simp [hl]) (fun j c x a b=>hr (n+j) c x (by simpa using a) (by simpa using b))
   refine ⟨by simp [ih.1],fun j v x a b=>?_⟩
   rcases j with _|j
   ·simp at a b
    subst a;subst b
    refine .agg _ _ (by simp [hl]) fun j c x a b=>?_
    rw [List.getElem?_take] at a
    split at a
    ·rename_i hj
     simp only [List.getElem?_toArray,List.getElem?_take,if_pos hj] at b
     exact hr j c x a b
    ·cases a
   ·exact ih.2 j v x (by simpa using a) (by simpa using b)
  ·cases h1'
theorem RVs.append {vs ws:List V} {xs ys:List Value} (h:RVs S g vs xs) (k:RVs S g ws ys):RVs S g (vs++ws) (xs++ys):=by
 refine ⟨by simp [h.1,k.1],fun j v x a b=>?_⟩
 by_cases hj:j<vs.length
 ·rw [List.getElem?_append_left hj] at a
  rw [List.getElem?_append_left (by rw [← h.1];exact hj)] at b
  exact h.2 j v x a b
 ·rw [List.getElem?_append_right (by omega)] at a
  rw [List.getElem?_append_right (by rw [← h.1];omega)] at b
  rw [← h.1] at b
  exact k.2 _ v x a b
theorem RVs.args (hR:Rel S G g nt s a w) {xs:List Rand} {ys:List Operand} (h:MRs S G xs ys):RVs S g (xs.map (rd S.Γ s.t)) (ys.map a.eval) :=
 ⟨by simp [b0u h],fun j v x h1 h2=>by
  simp only [List.getElem?_map,Option.map_eq_some_iff] at h1 h2
  obtain ⟨r,hr,rfl⟩:=h1
  obtain ⟨o,ho,rfl⟩:=h2
  exact b1r hR h j r o hr ho⟩
def b3I (S:Seat) (g:Gh) (fk:Fk) (xs:List Value) (d:Deferred):Prop :=
 match fk with
 | .fn id=>∃ cap,d.target=.fn (.func (S.fm id)) cap/\d.args++cap=xs.toArray
 | .yield l=>∃ cap,d.target=.fn (.yield (g.σ l)) cap/\d.args=xs.toArray
theorem b0n {f:V} {fv:Value} {args:List V} {xs:List Value} {fk:Fk} {vs:List V} (hf:RV S g f fv) (ha:RVs S g args xs) (e:target f args=some (fk,vs)) :
 ∃ d ys,(Deferred.ofValue fv xs.toArray)=pure d/\b3I S g fk ys d/\RVs S g vs ys:=by
 unfold target at e
 split at e
 ·rename_i id sh first cap
  simp only [Option.map_eq_some_iff,Prod.mk.injEq] at e
  obtain ⟨fs,hfs,rfl,rfl⟩:=e
  cases hf with
  | sc _ _ h =>
   cases h with
   | fn _ _ _ _ fs' fvs cvs hlen hu hr hcl hc =>
    have h1:=b0s hfs hu hlen hr
    have h3:RVs S g (cap.map V.sc) cvs:=⟨by simp [hcl],fun j v x a b=>by
     simp only [List.getElem?_map,Option.map_eq_some_iff] at a
     obtain ⟨c,hc',rfl⟩:=a
     exact .sc _ _ (hc j c x hc' b)⟩
    exact ⟨⟨.fn (.func (S.fm id)) cvs.toArray,fvs.toArray++xs.toArray⟩,fvs++xs++cvs,rfl,⟨cvs.toArray,rfl,by simp⟩,(h1.append ha).append h3⟩
 ·rename_i l _ _ _
  simp only [Option.some.injEq,Prod.mk.injEq] at e
  obtain ⟨rfl,rfl⟩:=e
  cases hf with
  | sc _ _ h =>
   cases h with
   | yield l hA=>exact ⟨⟨.fn (.yield (g.σ l)) #[],#[]++xs.toArray⟩,xs,rfl,⟨#[],rfl,by simp⟩,ha⟩
 ·cases e
theorem beside (hR:Rel S G g nt s a w) {v:V} {x:Value} (hg:a6h S G (g.cut 0) g' [] [] w w') (hv:RV S g' v x) :
 ∃ g'',Goes S G nt g g'' s s a a w w'/\RV S g'' v x:=by
 have noPerm:∀ b,¬ Perm (g.cut 0) ⟨[],[]⟩ b0A w b:=by
  rintro b hp
  rcases a4p hp with ⟨r,o,h,_⟩|⟨r,j,cs,es,l,vals,elem,fr,ad,n,cap,h,_⟩
  ·simp at h
  ·simp at h
 have noA:∀ r,¬ g'.A r:=fun r hA=>by
  obtain ⟨o,ho,_⟩:=hg.rel.hp.as r hA
  simp at ho
 let g2:Gh:={ g with M:=g'.M,N:=g'.N }
 have hgr:Grows g g2 w w':=by
  refine ⟨⟨fun _ h=>h,fun _ _=>rfl,fun b o v e=>hg.le.im b o v e,fun b es e=>hg.le.mm b es e⟩,fun _ h=>h,hg.keeps.mono (fun b _ hp=>noPerm b hp),fun b o v e=>?_,fun b es e=>?_⟩
  ·rcases hg.im b o v e with h|h|h
   ·exact .inl h
   ·exact .inr ⟨h,hg.rel.hp.im b o v e⟩
   ·exact absurd h (noPerm b)
  ·rcases hg.mm b es e with h|h|h
   ·exact .inl h
   ·exact .inr ⟨h,hg.rel.hp.mm b es e⟩
   ·exact absurd h (noPerm b)
 exact ⟨g2,.grow hR hgr,hv.mono ⟨fun r h=>absurd h (noA r),fun r h=>absurd h (noA r),fun _ _ _ h=>h,fun _ _ h=>h⟩⟩
theorem RelH.cut0 (hR:RelH S G g h w):RelH S G (g.cut 0) [] w :=
 ⟨fun r o e=>by simp at e,fun r hA=>absurd hA.2 (by omega),fun r o e=>by simp at e,fun r r' o o' e=>by simp at e,hR.im,hR.mm,fun r o e=>by simp at e,fun r o e=>by simp at e,
  fun id hid=>(hR.gl id hid).cut rfl,fun r j r' j' b ⟨cs,es,l,vals,elem,fr,ad,n,cap,h,_⟩=>by simp at h,fun r j b r' o ⟨cs,es,l,vals,elem,fr,ad,n,cap,h,_⟩=>by simp at h⟩
theorem RVs.cut0 {vs:List V} {xs:List Value} (h:RVs S g vs xs) (hp:vs.all V.pure=true):RVs S (g.cut 0) vs xs :=
 ⟨h.1,fun j v x a b=>(h.2 j v x a b).a3I (List.all_eq_true.1 hp v (List.mem_of_getElem? a)) (fun _ _ _ h=>h) (fun _ _ h=>h)⟩
noncomputable def Gh.look (g:Gh) (s:St) (a:Act) (w:World):Gh :=
 open Classical in { g with M:=fun b o=>if ∃ i es l ad n cap,get s.t i=.sc (.own true es l)/\a.tmps.getD i undef=.slice (some ad) n cap/\ad.block=b then w.cell? ⟨b,o,none⟩ else g.M b o }
theorem e8g (hR:Rel S G g nt s a w):g.Le (g.look s a w):=by
 refine ⟨fun _ h=>h,fun _ _=>rfl,fun b o v e=>?_,fun _ _ h=>h⟩
 simp only [Gh.look]
 split
 ·exact hR.hp.im b o v e
 ·exact e
theorem f2I (hR:Rel S G g nt s a w):RelH S G ((g.look s a w).cut 0) [] w :=
 ⟨fun r o e=>by simp at e,fun r hA=>absurd hA.2 (by omega),fun r o e=>by simp at e,fun r r' o o' e=>by simp at e,fun b o v e=>by
  simp only [Gh.cut,Gh.look] at e
  split at e
  ·exact e
  ·exact hR.hp.im b o v e,hR.hp.mm,fun r o e=>by simp at e,fun r o e=>by simp at e,
  fun id hid=>((hR.hp.gl id hid).mono (e8g hR)).cut rfl,fun r j r' j' b ⟨cs,es,l,vals,elem,fr,ad,n,cap,h,_⟩=>by simp at h,fun r j b r' o ⟨cs,es,l,vals,elem,fr,ad,n,cap,h,_⟩=>by simp at h⟩
theorem f3B (hR:Rel S G g nt s a w) {x:Rand} {x':Operand} (hm:MP S G x x') (he:∀ i j,x=.pk i->x'=.tmp j->a.tmps.getD j undef=a.tmps.getD i undef):RV S (g.look s a w) (rd S.Γ s.t x) (a.eval x'):=by
 cases hm with
 | r _ _ h=>exact (a0M hR h).mono (e8g hR)
 | pk i j =>
  have ht:=hR.tm i
  show RV S _ (get s.t i).peek (a.tmps.getD j undef)
  rw [he i j rfl rfl]
  generalize hv:get s.t i=v at ht
  generalize hx:a.tmps.getD i undef=x at ht
  cases ht with
  | rv _ _ h =>
   have:v.peek=v:=by
    unfold V.peek
    split
    ·cases h with
     | sc _ _ h=>exact absurd rfl (h.a2a _ _ _)
    ·exact h.a6Y
   rw [this]
   exact h.mono (e8g hR)
  | none es=>exact .sc _ _ (.slNil es)
  | own p es l b off cap ho =>
   cases p with
   | false=>exact .sc _ _ ((ho.rel rfl).mono (e8g hR))
   | true =>
    obtain ⟨rfl,hne,hcap,hl,hp,hc⟩:=ho.prv rfl
    have hk:kindOf l=.shared:=by
     cases l with
     | nil=>exact absurd rfl hne
     | cons=>rfl
    have hM:∀ o,(g.look s a w).M b o=w.cell? ⟨b,o,none⟩:=fun o=>by
     simp only [Gh.look]
     rw [if_pos ⟨i,es,l,_,_,_,hv,hx,rfl⟩]
    have key:∀ (i:Nat) (e:List C) (j:Nat),l[i]?=some e->j<es->∃ y c,w.cell? ⟨b,i*es+j,none⟩=some y/\e[j]?=some c/\RC S g c y:=fun i e j hi hj=>by
     have hlen:=hl e (List.mem_of_getElem? hi)
     have hfl:=flat_get hl i j hj
     have hej:e[j]?=some (e[j]'(by rw [hlen];exact hj)):=List.getElem?_eq_getElem _
     rw [hi,Option.bind_some,hej] at hfl
     obtain ⟨y,hy,hr⟩:=hc _ _ hfl
     exact ⟨y,_,hy,hej,hr⟩
    show RV S _ (.sc (.sl (kindOf l) es l)) _
    rw [hk]
    refine .sc _ _ (.sl .shared es l b 0 cap (fun i j=>(w.cell? ⟨b,i*es+j,none⟩).getD undef) (by simp) (by simp) hcap (fun i e hi=>hl e (List.mem_of_getElem? hi)) (fun i e hi=>hp e (List.mem_of_getElem? hi)) (fun i e j hi hj=>?_) (fun i e j c hi hj=>?_))
    ·obtain ⟨y,c,hy,_⟩:=key i e j hi hj
     rw [hM,Nat.zero_add,hy];rfl
    ·have hjl:j<es:=by rw [← hl e (List.mem_of_getElem? hi)];exact (List.getElem?_eq_some_iff.1 hj).1
     obtain ⟨y,c',hy,hc',hr⟩:=key i e j hi hjl
     rw [hj] at hc'
     cases hc'
     rw [hy]
     exact hr.mono (e8g hR)
theorem f0Y:∀ {xs:List Rand} {ys:List Operand},MPs S G xs ys->xs.length=ys.length
 | [],[],_=>rfl
 | _::xs,_::ys,h=>by simp [f0Y h.2]
 | [],_::_,h=>h.elim
 | _::_,[],h=>h.elim
theorem f0X:∀ {xs:List Rand} {ys:List Operand},MPs S G xs ys->∀ (j:Nat) x y,xs[j]?=some x->ys[j]?=some y->MP S G x y
 | [],[],_,j,x,y,h,_=>by simp at h
 | _::xs,_::ys,h,0,x,y,h1,h2=>by simp at h1 h2;subst h1;subst h2;exact h.1
 | _::xs,_::ys,h,j+1,x,y,h1,h2=>f0X h.2 j x y (by simpa using h1) (by simpa using h2)
 | [],_::_,h,_,_,_,_,_=>h.elim
 | _::_,[],h,_,_,_,_,_=>h.elim
theorem f1X (hR:Rel S G g nt s a w) {xs:List Rand} {ys:List Operand} (h:MPs S G xs ys) (he:∀ (k i j:Nat),xs[k]?=some (.pk i)->ys[k]?=some (.tmp j)->a.tmps.getD j undef=a.tmps.getD i undef):RVs S (g.look s a w) (xs.map (rd S.Γ s.t)) (ys.map a.eval) :=
 ⟨by simp [f0Y h],fun j v x h1 h2=>by
  simp only [List.getElem?_map,Option.map_eq_some_iff] at h1 h2
  obtain ⟨r,hr,rfl⟩:=h1
  obtain ⟨o,ho,rfl⟩:=h2
  exact f3B hR (f0X h j r o hr ho) fun i k h1 h2=>he j i k (h1 ▸ hr) (h2 ▸ ho)⟩
theorem f0k:∀ {xs:List Rand} {ys:List Operand},MPs S G xs ys->xs.any Rand.e6Y=false->MRs S G xs ys
 | [],[],_,_=>trivial
 | x::xs,y::ys,h,hp=>by
  simp only [List.any_cons,Bool.or_eq_false_iff] at hp
  refine ⟨?_,f0k h.2 hp.2⟩
  cases h.1 with
  | r _ _ h=>exact h
  | pk i j=>simp [Rand.e6Y] at hp
 | [],_::_,h,_=>h.elim
 | _::_,[],h,_=>h.elim
theorem f3r {v:V} {x:Value} (hf:v.flat=true) (h:RV S g v x):RV S g' v x:=by
 unfold V.flat at hf
 split at hf
 ·have:=h.a2W;subst this;exact .sc _ _ (.int _ _)
 ·have:=h.a5S;subst this;exact .sc _ _ (.bool _)
 ·cases hf
theorem f0Q (hR:Rel S G g nt s a w) {g0:Gh} (hg:a6h S G g0 g' [] [] w w'):Goes S G nt g g s s a a w w':=by
 have noPerm:∀ b,¬ Perm g0 ⟨[],[]⟩ b0A w b:=by
  rintro b hp
  rcases a4p hp with ⟨r,o,h,_⟩|⟨r,j,cs,es,l,vals,elem,fr,ad,n,cap,h,_⟩
  ·simp at h
  ·simp at h
 exact .grow hR ⟨.refl g,fun _ h=>h,hg.keeps.mono (fun b _ hp=>noPerm b hp),fun _ _ _ h=>.inl h,fun _ _ h=>.inl h⟩
theorem e8Q {K:a1n} (hK:SimK S G K) {fk:Fk} {vs:List V} {xs:List Value} {d:Deferred} {g0:Gh} {h0 h1:List Obj} {v1:V} (hH:RelH S G g0 h0 w) (hxs:RVs S g0 vs xs) (hld:b3I S g0 fk xs d) (hk:K fk vs h0=some (v1,h1)) :
 (∃ f args,(invoke d.target d.args).run S.P w=.ok (.enter f args) w/\CallsIn Fence.wide 0 S.P f args w (a3j S G g0 h0 h1 w v1)) ∨
 (∃ l f tmps x y,(invoke d.target d.args).run S.P w=.ok (.round l f tmps x y) w/\RoundIn Fence.wide 0 S.P l f tmps x y w (a3j S G g0 h0 h1 w v1)):=by
 have:=hK fk vs h0 v1 h1 hk g0 w xs hH hxs
 cases fk with
 | fn id =>
  obtain ⟨⟨fn,hfn,hname,hbody⟩,hc⟩:=this
  obtain ⟨cap,ht,hargs⟩:=hld
  refine .inl ⟨S.fm id,xs.toArray,?_,hc⟩
  simp [invoke,ht,hargs,callFunc,hfn,hname,hbody]
 | yield l =>
  obtain ⟨f,tmps,x,y,hy,hc⟩:=this
  obtain ⟨cap,ht,hargs⟩:=hld
  refine .inr ⟨_,f,tmps,x,y,?_,hc⟩
  simp only [invoke,ht,hargs]
  exact hy
theorem c0I {K:a1n} (hK:SimK S G K) (hR:Rel S G g nt s a w) {f:Rand} {as:List Rand} {f':Operand} {as':List Operand} {pu:Bool} (hf:MR S G f f') (ha:MRs S G as as'\/(pu=true/\MPs S G as as'))
    (he:∀ (k i j:Nat),as[k]?=some (.pk i)->as'[k]?=some (.tmp j)->a.tmps.getD j undef=a.tmps.getD i undef) (e:calls K (rd S.Γ s.t) s.h pu f as=some (v,h')) :
    ∃ d,Deferred.ofValue (a.eval f') (as'.map a.eval).toArray=pure d/\∃ R:Ending->World->Prop,(∀ e w',R e w'->∃ x g',e=.returned x/\Goes S G nt g g' s ⟨s.t,h'⟩ a a w w'/\RV S g' v x) ∧
      ((∃ f args,(invoke d.target d.args).run S.P w=.ok (.enter f args) w/\CallsIn Fence.wide 0 S.P f args w R) ∨
       (∃ l f tmps x y,(invoke d.target d.args).run S.P w=.ok (.round l f tmps x y) w/\RoundIn Fence.wide 0 S.P l f tmps x y w R)):=by
  unfold calls at e
  split at e
  · cases e
  · rename_i fk vs ht
    by_cases hpk:as.any Rand.e6Y=true
    · have hmp:pu=true/\MPs S G as as':=by
        rcases ha with ha|ha
        · exfalso
          have:∀ {xs:List Rand} {ys:List Operand},MRs S G xs ys->xs.any Rand.e6Y=false:=by
            intro xs
            induction xs with
            | nil=>intros;rfl
            | cons x xs ih =>
              intro ys h
              cases ys with
              | nil=>exact h.elim
              | cons y ys =>
                rw [List.any_cons,ih h.2,Bool.or_false]
                cases h.1<;>rfl
          rw [this ha] at hpk;cases hpk
        · exact ha
      obtain ⟨rfl,hmp⟩:=hmp
      simp only [if_true] at e
      obtain ⟨d,ys,hd,hl,hx⟩:=b0n ((a0M hR hf).mono (e8g hR)) (f1X hR hmp he) ht
      refine ⟨d,hd,?_⟩
      split at e
      · rename_i hp
        simp only [Option.bind_eq_some_iff] at e
        obtain ⟨q,⟨⟨v1,h1⟩,hk,e⟩,e2⟩:=e
        unfold alone at e
        split at e
        · rename_i hh
          simp only at hh
          subst hh
          simp only [Option.some.injEq] at e
          subst e
          unfold shut at e2
          rw [hpk] at e2
          simp only [Bool.true_and] at e2
          split at e2
          · cases e2
          · rename_i hfl
            simp only [Option.some.injEq,Prod.mk.injEq] at e2
            obtain ⟨rfl,rfl⟩:=e2
            have hfl':v1.flat=true:=by simpa using hfl
            have hld:b3I S ((g.look s a w).cut 0) fk ys d:=hl
            refine ⟨a3j S G ((g.look s a w).cut 0) [] [] w v1,fun e w' ⟨x,g',h1,h2,h3⟩=>⟨x,g,h1,f0Q hR h2,f3r hfl' h3⟩,e8Q hK (f2I hR) (hx.cut0 hp) hld hk⟩
        · cases e
      · cases e
    · have hpk':as.any Rand.e6Y=false:=by simpa using hpk
      have hmr:MRs S G as as':=by
        rcases ha with ha|⟨_,ha⟩
        · exact ha
        · exact f0k ha hpk'
      obtain ⟨d,xs,hd,hl,hx⟩:=b0n (a0M hR hf) (RVs.args hR hmr) ht
      refine ⟨d,hd,?_⟩
      cases pu with
      | false =>
        simp only [Bool.false_eq_true,if_false] at e
        refine ⟨a3j S G g s.h h' w v,fun e w' ⟨x,g',h1,h2,h3⟩=>⟨x,g',h1,Goes.frame hR h2,h3⟩,e8Q hK hR.hp hx hl e⟩
      | true =>
        simp only [if_true] at e
        split at e
        · rename_i hp
          simp only [Option.bind_eq_some_iff] at e
          obtain ⟨q,⟨⟨v1,h1⟩,hk,e⟩,e2⟩:=e
          unfold alone at e
          split at e
          · rename_i hh
            simp only at hh
            subst hh
            simp only [Option.some.injEq] at e
            subst e
            unfold shut at e2
            rw [hpk'] at e2
            simp only [Bool.false_and,Bool.false_eq_true,if_false,Option.some.injEq,Prod.mk.injEq] at e2
            obtain ⟨rfl,rfl⟩:=e2
            have hld:b3I S (g.cut 0) fk xs d:=hl
            refine ⟨a3j S G (g.cut 0) [] [] w v1,fun e w' ⟨x,g',h1,h2,h3⟩=>?_,e8Q hK hR.hp.cut0 (hx.cut0 hp) hld hk⟩
            obtain ⟨g'',k1,k2⟩:=beside hR h2 h3
            exact ⟨x,g'',h1,k1,k2⟩
          · cases e
        · cases e
theorem a3Y (a:Act) (dst:Option Tmp) (x:Value):(a.put dst x).defers=a.defers:=by cases dst<;>rfl
theorem b6n {K:a1n} (hK:SimK S G K) (hR:Rel S G g nt s a w) {ops:Array Go.Oper} {o:Oper} {o':Go.Oper} (hm:MOper S G nt ops o o') (hs:step S.Γ K base o s=some s') (ro:Option Nat) {next:Act->World->Prop} {Q:Exit->Act->World->Prop}
 (hal:∀ i j,e8v o.op o'.op i j->wanted o s.t=some true->a.tmps.getD j undef=a.tmps.getD i undef)
 (hn:∀ x w' g',Goes S G nt g g' s s' a (a.put o'.dst x) w w'->(∀ i,o.op=.mv (.t i)->wanted o s.t=some true->x=a.tmps.getD i undef)->next (a.put o'.dst x) w') :
 if Region.wanted o' (yielded ops a.tmps)=true then o'.wpIn (a1W ro) 0 S.P a w next Q else (∀ f,o'.about S.P w a.eval=some f->(a1W ro).fn f)/\next (a.put o'.dst undef) w:=by
 have hdst:∀ d,o.dst=some d->d<nt:=hm.lt
 have hab:∀ f,o'.about S.P w a.eval=some f->(a1W ro).fn f:=fun f _=>b1H ro f
 unfold step at hs
 split at hs
 ·cases hs
 ·rename_i hw
  rw [b2y hR hm hw,if_neg (by simp)]
  simp only [Option.some.injEq] at hs
  subst hs
  refine ⟨hab,hn _ _ g ?_ (fun i _ h=>by rw [hw] at h;cases h)⟩
  rw [hm.dst]
  exact Goes.put hR (.tup [] #[] rfl fun j v w a b=>by simp at a) hdst
 ·rename_i hw
  rw [b2y hR hm hw,if_pos rfl]
  split at hs
  ·cases hs
  ·rename_i v h' hp
   simp only [Option.some.injEq] at hs
   subst hs
   refine ⟨hab,?_⟩
   rw [a9w,Oper.semAt_eq ro a.eval o' (b7X hm.op)]
   by_cases hc:∃ p f as,o.op=.call p f as
   ·obtain ⟨pu,f,as,ho⟩:=hc
    have hop:=hm.op
    rw [ho] at hop hp
    have hcl:∃ f' args' ts,o'.op=.call { callee:=.value f',args:=args'.toArray,argTypes:=ts }/\MR S G f f'/\(MRs S G as args'\/(pu=true/\MPs S G as args')):=by
     generalize o'.op=oo at hop
     cases hop with
     | call _ _ _ f' args' ts hf ha=>exact ⟨f',args',ts,rfl,hf,.inl ha⟩
     | callP _ _ f' args' ts hf ha=>exact ⟨f',args',ts,rfl,hf,.inr ⟨rfl,ha⟩⟩
    obtain ⟨f',args',ts,ho',hf,ha⟩:=hcl
    have htk:o.op.takes=[]:=by rw [ho];rfl
    obtain ⟨d,hd,R,hpost,hcase⟩:=c0I hK hR hf ha (fun k i j h1 h2=>hal i j ⟨pu,f,as,f',args'.toArray,ts,k,ho,ho',h1,by simpa using h2⟩ hw) hp
    have hres:(resolve a.eval { callee:=.value f',args:=args'.toArray,argTypes:=ts } o'.type)=pure d:=by
     simp only [resolve]
     rw [← hd]
     congr 1
     simp
    have hrun:(execOp a.eval o').run S.P w=(invoke d.target d.args).run S.P w:=by
     simp only [execOp,ho',hres,Sem.run_bind,Sem.run_pure,Result.andThen_ok]
    have fin:∀ e w',R e w'->(match e,w' with | .returned v,w''=>next (a.put o'.dst v) w'' | .panicked chain,w''=>Q (.panic chain) a w'' | .outgrown,_=>LetsOut Q):=fun e w' hr=>by
     obtain ⟨x,g',rfl,h2,h3⟩:=hpost e w' hr
     refine hn _ _ g' ?_ (fun i h _=>by rw [ho] at h;cases h)
     rw [hm.dst,htk]
     exact h2.trans (Goes.put h2.rel h3 hdst)
    rw [hrun]
    rcases hcase with ⟨f,args,h1,h2⟩|⟨l,f,tmps,x,y,h1,h2⟩
    ·rw [h1,Oper.uponIn_enter]
     exact ⟨fun h=>(by rw [a9v] at h;cases h),b3D (h2.mono fin)⟩
    ·rw [h1,Oper.uponIn_round]
     exact ⟨fun h=>(by rw [a9v] at h;cases h),b2D (h2.mono fin)⟩
   ·have key:∃ x n w' g',(execOp a.eval o').run S.P w=.ok n w'/\(n=.value x\/(n=.skip/\x=undef))/\Goes S G nt g g' s { t:=put1 o.dst v (drop o.op.takes s.t),h:=h' } a (a.put o.dst x) w w':=by
     by_cases hpl:o.op.plain=true
     ·rw [a1y hpl,Option.map_eq_some_iff] at hp
      obtain ⟨⟨v',ws⟩,he,e2⟩:=hp
      simp only [Prod.mk.injEq] at e2
      obtain ⟨rfl,rfl⟩:=e2
      exact (b6f hR hm.op hpl he).step rfl hdst
     ·have hop:=hm.op
      cases ho:o.op with
      | call p f as=>exact absurd ⟨p,f,as,ho⟩ hc
      | late o1 =>
       rw [ho] at hop hp
       generalize ho':o'.op=oo at hop
       cases hop with
       | late _ _ hp1 hm1 =>
        simp only [perform] at hp
        split at hp
        ·rename_i htk
         simp only [Option.map_eq_some_iff] at hp
         obtain ⟨⟨v',ws⟩,he,e2⟩:=hp
         simp only [Prod.mk.injEq] at e2
         obtain ⟨rfl,rfl⟩:=e2
         have hroom:=Goes.room hR 1
         obtain ⟨x,n,w',g',h1,h2,h3⟩:=(b6f (base:=s.h.length) (s:=⟨s.t,s.h++[.free]⟩) hroom.rel hm1 hp1 he).step ho' hdst
         rw [htk] at h3
         exact ⟨x,n,w',g',h1,h2,hroom.trans h3⟩
        ·cases hp
      | _=>rw [ho] at hpl;exact absurd rfl hpl
    obtain ⟨x,n,w',g',h1,h2,h3⟩:=key
    have hmv:∀ i,o.op=.mv (.t i)->n=.value (a.tmps.getD i undef):=fun i hi=>by
     have hop:=hm.op
     rw [hi] at hop
     have hr:(execOp a.eval o').run S.P w=.ok (.value (a.tmps.getD i undef)) w:=by
      generalize ho':o'.op=oo at hop
      cases hop with
      | mv _ x' h =>
       cases h with
       | r _ _ h=>cases h;simp [execOp,ho',Act.eval]
      | asg _ x' h =>
       cases h with
       | r _ _ h=>cases h;simp [execOp,ho',Act.eval]
     rw [hr] at h1
     cases h1
     rfl
    rw [h1]
    rcases h2 with rfl|⟨rfl,rfl⟩
    ·rw [Oper.uponIn_value]
     refine hn _ _ g' ?_ (fun i h _=>by have:=hmv i h;cases this;rfl)
     rw [hm.dst];exact h3
    ·rw [Oper.uponIn_skip]
     refine hn _ _ g' ?_ (fun i h _=>by have:=hmv i h;cases this)
     rw [hm.dst];exact h3
end
end Go.Pm
namespace Go.Pm
section
variable {S:Seat} {G:List Nat} {g g' g'':Gh} {nt:Nat} {s s' s'':St} {a a' a'':Act} {w w' w'':World} {h h':List Obj} {base:Nat}
theorem a4M.get {ops:Array Go.Oper}:∀ {os:List Oper} {os':List Go.Oper},a4M S G nt ops os os'->os.length=os'.length/\∀ (i:Nat) o o',os[i]?=some o->os'[i]?=some o'->MOper S G nt ops o o'
 | [],[],_=>⟨rfl,fun i o o' h=>by simp at h⟩
 | o::os,o'::os',h=>by
  obtain ⟨h1,h2⟩:=h
  obtain ⟨h3,h4⟩:=a4M.get h2
  refine ⟨by simp [h3],fun i p p' a b=>?_⟩
  rcases i with _|i
  ·simp at a b;subst a;subst b;exact h1
  ·exact h4 i p p' (by simpa using a) (by simpa using b)
 | [],_::_,h=>by cases h
 | _::_,[],h=>by cases h
/-! ### Room for what a region allocates; slots forgotten -/
theorem Goes.restrict (hR:Rel S G g nt s a w) (keep:List Nat):Goes S G nt g g s { t:=Pm.restrict keep s.t,h:=s.h } a a w w where
 le:=.refl g
 rel:=hR.restrict keep
 keeps:=.refl _ w
 back:=fun b _ hp=>by
  rcases hp with h|⟨i,p,es,l,ad,n,cap,h1,h2,h3⟩
  ·exact .inl h
  ·have h1':get (Pm.restrict keep s.t) i=.sc (.own p es l):=h1
   rw [a2s] at h1'
   split at h1'
   ·exact .inr ⟨i,p,es,l,ad,n,cap,h1',h2,h3⟩
   ·cases h1'
 im:=fun _ _ _ h=>.inl h
 mm:=fun _ _ h=>.inl h
theorem b4R {e:St} (h:Eqv s e) (keep:List Nat):({ t:=restrict keep s.t,h:=s.h }:St)={ t:=restrict keep e.t,h:=e.h }:=by
 have:restrict keep s.t=restrict keep e.t:=List.map_congr_left fun i _=>by rw [h.t i]
 rw [this,h.h]
/-! ### In their text's order -/
def e8h (gd:Option (Nat × Bool)) (t:List (Nat × V)):Option Bool:=wanted { op:=.lenArr 0,guard:=gd } t
def Als (A:List Al) (s:St) (a:Act):Prop:=∀ gd i j,(gd,i,j)∈A->e8h gd s.t=some true->a.tmps.getD j undef=a.tmps.getD i undef
theorem e9i (gd:Option (Nat × Bool)) (dst:Option Nat) (v:V) (t:List (Nat × V)) (h:∀ d,dst=some d->e8w gd d=true):e8h gd (put1 dst v t)=e8h gd t:=by
 cases gd with
 | none=>rfl
 | some p =>
  obtain ⟨g,b⟩:=p
  cases dst with
  | none=>rfl
  | some d =>
   have:=h d rfl
   simp only [e8w,decide_eq_true_eq] at this
   simp only [e8h,wanted,a7U]
   rw [if_neg (fun e=>this (Option.some.inj e).symm)]
theorem Als.next {K:a1n} {A:List Al} {o:Oper} {dst:Option Nat} {x:Value} (hA:Als A s a) (hs:step S.Γ K base o s=some s') (hd:dst=o.dst) (hlt:∀ d,o.dst=some d->d<a.tmps.size)
 (hx:∀ i,o.op=.mv (.t i)->wanted o s.t=some true->x=a.tmps.getD i undef):Als (e9E A o) s' (a.put dst x):=by
 subst hd
 have hput:∀ i,o.dst≠some i->(a.put o.dst x).tmps.getD i undef=a.tmps.getD i undef:=fun i hi=>by rw [a6Q a o.dst x i hlt,if_neg hi]
 have hw:∀ gd,(∀ d,o.dst=some d->e8w gd d=true)->o.op.takes=[]->e8h gd s'.t=e8h gd s.t:=fun gd hg ht=>by
  unfold step at hs
  split at hs
  ·cases hs
  ·simp only [Option.some.injEq] at hs
   subst hs
   exact e9i gd o.dst _ _ hg
  ·split at hs
   ·cases hs
   ·simp only [Option.some.injEq] at hs
    subst hs
    rw [ht]
    exact e9i gd o.dst _ _ hg
 intro gd i j hm hgd
 unfold e9E at hm
 rcases List.mem_append.1 hm with hm|hm
 ·split at hm
  ·rename_i i' j' ho hdst
   by_cases hc:i'≠j'/\e8w o.guard j'=true
   ·rw [if_pos hc] at hm
    simp only [List.mem_singleton,Prod.mk.injEq] at hm
    obtain ⟨rfl,rfl,rfl⟩:=hm
    rw [hw _ (fun d e=>by rw [hdst] at e;cases e;exact hc.2) (by rw [ho];rfl)] at hgd
    have hx':=hx i ho hgd
    rw [hput i (by rw [hdst];exact fun e=>hc.1 (Option.some.inj e).symm),a6Q a o.dst x j hlt,if_pos hdst,hx']
   ·rw [if_neg hc] at hm;simp at hm
  ·simp at hm
 ·split at hm
  ·rename_i ht
   obtain ⟨hm,hk⟩:=List.mem_filter.1 hm
   have hi:o.dst≠some i:=fun e=>by rw [e] at hk;simp [keepA] at hk
   have hj:o.dst≠some j:=fun e=>by rw [e] at hk;simp [keepA] at hk
   rw [hw gd (fun d e=>by rw [e] at hk;simp only [keepA,Bool.and_eq_true] at hk;exact hk.2) ht] at hgd
   rw [hput i hi,hput j hj]
   exact hA gd i j hm hgd
  ·simp at hm
theorem a9q {K:a1n} (hK:SimK S G K) {ops':Array Go.Oper} (ro:Option Nat) {Q:Exit->Act->World->Prop}:∀ (os:List Oper) (os':List Go.Oper) (i:Nat),a4M S G nt ops' os os'->(∀ j,os'[j]?=ops'[i+j]?) →
 ∀ (A:List Al),AlOk A os os'->∀ (s e:St) (a:Act) (w:World) (g:Gh),steps S.Γ K base os s=some e->Rel S G g nt s a w->Als A s a->(∀ a' w' g',Goes S G nt g g' s e a a' w w'->a'.defers=a.defers->Q .normal a' w') →
  wpOpsIn (a1W ro) 0 S.P ops' Q (List.range' i os'.length) a w
 | [],[],i,_,_,A,_,s,e,a,w,g,hs,hR,_,hn=>by
  simp only [steps,Option.some.injEq] at hs
  subst hs
  simp only [List.length_nil,List.range'_zero,wpOpsIn]
  exact hn a w g (.refl hR) rfl
 | o::os,o'::os',i,hm,hi,A,hk,s,e,a,w,g,hs,hR,hA,hn=>by
  obtain ⟨h1,h2⟩:=hm
  obtain ⟨hk1,hk2⟩:=hk
  simp only [steps] at hs
  split at hs
  ·cases hs
  ·rename_i s1 hs1
   have ho:ops'[i]?=some o':=by have:=hi 0;simpa using this.symm
   rw [List.length_cons,List.range'_succ,wpOpsIn]
   simp only [ho]
   refine b6n hK hR h1 hs1 ro (fun i j hp hw=>?_) fun x w' g' hg hx=>a9q hK ro os os' (i+1) h2 (fun j=>by have:=hi (j+1);rw [List.getElem?_cons_succ] at this;rw [this];congr 1;omega) (e9E A o) hk2 s1 e _ w' g' hs hg.rel
    (hA.next hs1 h1.dst (fun d hd=>by rw [hR.sz];exact h1.lt d hd) hx) fun a'' w'' g'' hg' hd'=>hn a'' w'' g'' (hg.trans hg') (hd'.trans (a3Y _ _ _))
   rcases hk1 i j hp with rfl|h|h
   ·rfl
   ·exact hA _ _ _ h hw
   ·exact hA _ _ _ h rfl
 | [],_::_,_,h,_,_,_,_,_,_,_,_,_,_,_,_=>by cases h
 | _::_,[],_,h,_,_,_,_,_,_,_,_,_,_,_,_=>by cases h
/-! ### In an order that is drawn -/
theorem b1t {ops':Array Go.Oper} {anc:Nat->List Nat} (hlt:∀ (i:Nat) o,ops'.toList[i]?=some o->∀ j∈binds o,j<i) (hanc:∀ (i:Nat) o,ops'.toList[i]?=some o->∀ j∈anc i,j∈binds o\/∃ k∈binds o,j∈anc k)
 {L:Nat->Prop} (hdown:∀ (i:Nat) o',ops'[i]?=some o'->L i->∀ j∈binds o',L j):∀ (n i:Nat) o',i<n->ops'[i]?=some o'->(∀ j∈binds o',L j)->∀ j∈anc i,L j
 | 0,i,_,hi,_,_=>by omega
 | n+1,i,o',hi,ho,hb=>by
  intro j hj
  have ho':ops'.toList[i]?=some o':=by rw [Array.getElem?_toList];exact ho
  rcases hanc i o' ho' j hj with h|⟨k,hk,hjk⟩
  ·exact hb j h
  ·have hki:=hlt i o' ho' k hk
   have hks:k<ops'.size:=by have:=(Array.getElem?_eq_some_iff.1 ho).1;omega
   exact b1t hlt hanc hdown n k ops'[k] (by omega) (Array.getElem?_eq_getElem hks) (hdown k _ (Array.getElem?_eq_getElem hks) (hb k hk)) j hjk
theorem b3l {o:Go.Oper} {e:Edge} (he:e∈o.after) (hb:Region.binds .any e=true):e.on∈binds o:=by
 unfold binds
 exact List.mem_map.2 ⟨e,List.mem_filter.2 ⟨Array.mem_toList_iff.2 he,hb⟩,rfl⟩
theorem b4H {o:Go.Oper} {j:Nat} (h:j∈binds o):∃ e∈o.after,Region.binds .any e=true/\e.on=j:=by
 unfold binds at h
 obtain ⟨e,he,rfl⟩:=List.mem_map.1 h
 obtain ⟨h1,h2⟩:=List.mem_filter.1 he
 exact ⟨e,Array.mem_toList_iff.1 h1,h2,rfl⟩
theorem a2M {l:Array Bool} {j:Nat} (hj:j<l.size) (d:Bool):l.getD j d=l[j]:=by simp [Array.getD,hj]
theorem b8F {K:a1n} (hK:SimK S G K) {ops':Array Go.Oper} {ops:List Oper} (hm:a4M S G nt ops' ops ops'.toList) (hd:DrawOk ops ops'.toList) (hk:AlD ops ops'.toList) (tr:List (Nat × Acc)) (ro:Option Nat) {Q:Exit->Act->World->Prop} :
 ∀ (fuel:Nat) (rem:List Oper) (listed:Array Bool) (s e:St) (a:Act) (w:World) (g:Gh),rem.length=fuel->rem.Sublist ops->listed.size=ops'.size->(∀ i,i<ops'.size->(listed.getD i true=false<->∃ o∈rem,o.ix=i)) →
  (∀ (i:Nat) o',ops'[i]?=some o'->listed.getD i true=true->∀ j∈binds o',listed.getD j true=true)->RunT S.Γ K base tr rem s e->rem.Pairwise (Pairs tr)->Rel S G g nt s a w →
  (∀ a' w' g' s',Goes S G nt g g' s s' a a' w w'->Eqv s' e->a'.defers=a.defers->Q .normal a' w')->wpAnyIn (a1W ro) 0 S.P .any ops' Q fuel listed a w:=by
 obtain ⟨hlen,hget⟩:=hm.get
 have hpos:∀ o∈ops,ops[o.ix]?=some o/\o.ix<ops'.size:=fun o ho=>by
  obtain ⟨k,hk⟩:=List.getElem?_of_mem ho
  have:=hd.ix k o hk
  subst this
  exact ⟨hk,by have:=(List.getElem?_eq_some_iff.1 hk).1;rw [hlen] at this;simpa using this⟩
 have hsorted:ops.Pairwise (fun x y=>x.ix<y.ix):=by
  rw [List.pairwise_iff_getElem]
  intro i j hi hj hij
  rw [hd.ix i _ (List.getElem?_eq_getElem hi),hd.ix j _ (List.getElem?_eq_getElem hj)]
  exact hij
 obtain ⟨anc,hanc,hpair⟩:=hd.apart
 intro fuel
 induction fuel with
 | zero =>
  intro rem listed s e a w g hl hsub hsz hun hdown hrun hpw hR hn
  have hnil:rem=[]:=List.length_eq_zero_iff.1 hl
  subst hnil
  refine ⟨?_,hn a w g s (.refl hR) hrun rfl⟩
  apply List.eq_nil_iff_forall_not_mem.2
  intro i hi
  obtain ⟨h0,o,ho,_⟩:=mem_ready.1 hi
  have hlt:i<ops'.size:=(Array.getElem?_eq_some_iff.1 ho).1
  obtain ⟨o,ho,_⟩:=(hun i hlt).1 h0
  simp at ho
 | succ fuel ih =>
  intro rem listed s e a w g hl hsub hsz hun hdown hrun hpw hR hn
  refine ⟨fun hnone=>?_,fun i hi=>?_⟩
  ·exfalso
   cases rem with
   | nil=>simp at hl
   | cons o rest =>
    have hoops:=hsub.subset (by simp:o∈o::rest)
    obtain ⟨hpo,hlt⟩:=hpos o hoops
    have hready:o.ix∈Region.ready .any ops' listed:=by
     refine mem_ready.2 ⟨(hun _ hlt).2 ⟨o,by simp,rfl⟩,ops'[o.ix],Array.getElem?_eq_getElem hlt,fun ed he hb=>?_⟩
     have hbl:=hd.lt o.ix ops'[o.ix] (by rw [Array.getElem?_toList];exact Array.getElem?_eq_getElem hlt) ed.on (b3l he hb)
     have hbs:ed.on<listed.size:=by omega
     cases hc:listed.getD ed.on true with
     | true=>rw [a2M hbs] at hc ⊢;exact hc
     | false =>
      obtain ⟨o2,ho2,hix⟩:=(hun ed.on (by omega)).1 hc
      rcases List.mem_cons.1 ho2 with rfl|ho2
      ·omega
      ·have:=List.rel_of_pairwise_cons (hsorted.sublist hsub) ho2
       omega
    rw [hnone] at hready
    cases hready
  ·obtain ⟨h0,o',ho',hall⟩:=mem_ready.1 hi
   have hlt:i<ops'.size:=(Array.getElem?_eq_some_iff.1 ho').1
   obtain ⟨o,ho,hix⟩:=(hun i hlt).1 h0
   subst hix
   obtain ⟨pre,post,rfl⟩:=List.append_of_mem ho
   have hoops:=hsub.subset ho
   obtain ⟨hpo,_⟩:=hpos o hoops
   have hmo:=hget o.ix o o' hpo (by rw [Array.getElem?_toList];exact ho')
   have hbl:∀ j∈binds o',listed.getD j true=true:=fun j hj=>by
    obtain ⟨ed,he,hb,rfl⟩:=b4H hj
    have:=hall ed he hb
    have hlt2:=hd.lt o.ix o' (by rw [Array.getElem?_toList];exact ho') ed.on (b3l he hb)
    have hbs:ed.on<listed.size:=by omega
    rw [a2M hbs] at this ⊢;exact this
   have hancl:=b1t hd.lt hanc (L:=fun j=>listed.getD j true=true) hdown (o.ix+1) o.ix o' (by omega) ho' hbl
   have hs:=hsorted.sublist hsub
   have hfront:=hrun.front (fun oj hoj=>by
    have hm1:oj∈ops:=hsub.subset (by simp [hoj])
    obtain ⟨hpj,hltj⟩:=hpos oj hm1
    have hlt3:oj.ix<o.ix:=(List.pairwise_append.1 hs).2.2 oj hoj o (by simp)
    refine ⟨hpair o.ix oj.ix o oj hlt3 hpo hpj fun hmem=>?_,(List.pairwise_append.1 hpw).2.2 oj hoj o (by simp)⟩
    have h1:=hancl _ hmem
    have h2:=(hun oj.ix hltj).2 ⟨oj,by simp [hoj],rfl⟩
    rw [h1] at h2
    cases h2)
   obtain ⟨s1,hs1,_,hrest⟩:=hfront
   unfold wpOpIn
   simp only [ho']
   refine b6n hK hR hmo hs1 ro (fun i j hp _=>by rw [hk o.ix o o' hpo (by rw [Array.getElem?_toList];exact ho') i j hp]) fun x w' g' hg _=>?_
   have hsub':(pre++post).Sublist (pre++o::post):=List.Sublist.append (List.Sublist.refl pre) (List.sublist_cons_self o post)
   have hnotin:∀ o2∈pre++post,o2.ix≠o.ix:=fun o2 ho2=>by
    rcases List.mem_append.1 ho2 with h1|h1
    ·have:=(List.pairwise_append.1 hs).2.2 o2 h1 o (by simp);omega
    ·have:=List.rel_of_pairwise_cons (List.pairwise_append.1 hs).2.1 h1;omega
   refine ih (pre++post) _ s1 e _ w' g' (by simp at hl ⊢;omega) (hsub'.trans hsub) (by simpa using hsz) (fun j hj=>?_) (fun j oj' hoj' hlj k hk=>?_) hrest (hpw.sublist hsub') hg.rel
    (fun a'' w'' g'' s'' hg' he hd'=>hn a'' w'' g'' s'' (hg.trans hg') he (hd'.trans (a3Y _ _ _)))
   ·have hjl:j<listed.size:=by omega
    have hjl':j<(listed.setIfInBounds o.ix true).size:=by simpa using hjl
    rw [a2M hjl']
    by_cases hjo:j=o.ix
    ·subst hjo
     simp only [Array.getElem_setIfInBounds_self,Bool.true_eq_false,false_iff,not_exists,not_and]
     exact hnotin
    ·rw [Array.getElem_setIfInBounds_ne hjl (fun h=>hjo h.symm), ← a2M hjl true,hun j hj]
     constructor
     ·rintro ⟨o2,ho2,hx⟩
      refine ⟨o2,?_,hx⟩
      rcases List.mem_append.1 ho2 with h1|h1
      ·exact List.mem_append_left _ h1
      ·rcases List.mem_cons.1 h1 with rfl|h1
       ·exact absurd hx.symm hjo
       ·exact List.mem_append_right _ h1
     ·rintro ⟨o2,ho2,hx⟩
      exact ⟨o2,hsub'.subset ho2,hx⟩
   ·have hjl:j<ops'.size:=(Array.getElem?_eq_some_iff.1 hoj').1
    have hk2:=hd.lt j oj' (by rw [Array.getElem?_toList];exact hoj') k hk
    have hkl:k<listed.size:=by omega
    have hkl':k<(listed.setIfInBounds o.ix true).size:=by simpa using hkl
    have hjl2:j<listed.size:=by omega
    have hjl':j<(listed.setIfInBounds o.ix true).size:=by simpa using hjl2
    rw [a2M hkl']
    by_cases hko:k=o.ix
    ·subst hko;simp
    ·rw [Array.getElem_setIfInBounds_ne hkl (fun h=>hko h.symm), ← a2M hkl true]
     by_cases hjo:j=o.ix
     ·subst hjo
      rw [ho'] at hoj'
      cases hoj'
      exact hbl k hk
     ·rw [a2M hjl',Array.getElem_setIfInBounds_ne hjl2 (fun h=>hjo h.symm), ← a2M hjl2 true] at hlj
      exact hdown j oj' hoj' hlj k hk
theorem b3t {K:a1n} (hK:SimK S G K) (hmix:S.P.follows .mixedOrders=true) {nal:Nat} {ops:List Oper} {draw:Bool} {keep:List Nat} {id:Nat} {ops':Array Go.Oper} (hm:a4M S G nt ops' ops ops'.toList) (hd:draw=true->DrawOk ops ops'.toList) (hk:if draw then AlD ops ops'.toList else AlOk [] ops ops'.toList)
 (hR:Rel S G g nt s a w) {ex:Ex} (e:region S.Γ K nal ops draw keep s=some (ex,s')) (ro:Option Nat) {Q:Exit->Act->World->Prop}
 (hn:ex=.norm->∀ a' w' g',Goes S G nt g g' s s' a a' w w'->a'.defers=a.defers->Q .normal a' w'):(Code.region id ops' draw).wpIn (a1W ro) 0 S.P Q a w:=by
 have hroom:=Goes.room hR nal
 cases draw with
 | false =>
  simp only [region,Option.map_eq_some_iff,Prod.mk.injEq] at e
  obtain ⟨e1,he,rfl,rfl⟩:=e
  refine wpIn_region ?_
  have hr:List.range ops'.size=List.range' 0 ops'.toList.length:=by rw [List.range_eq_range'];simp
  rw [hr]
  exact a9q hK ro ops ops'.toList 0 hm (fun j=>by simp) [] (by simpa using hk) _ _ a w g he hroom.rel (fun _ _ _ h=>by simp at h) fun a' w' g' hg hdf=>hn rfl a' w' g' ((hroom.trans hg).trans (.restrict hg.rel keep)) hdf
 | true =>
  simp only [region,Option.map_eq_some_iff,Prod.mk.injEq] at e
  obtain ⟨e1,⟨⟨e2,tr⟩,he,rfl⟩,rfl,rfl⟩:=e
  obtain ⟨hlen,_⟩:=hm.get
  have hix:ops.map (·.ix)=List.range ops.length:=by
   apply List.ext_getElem?
   intro i
   rw [List.getElem?_map]
   cases hi:ops[i]? with
   | none=>simp [List.getElem?_eq_none_iff.1 hi]
   | some o =>
    have:=(List.getElem?_eq_some_iff.1 hi).1
    have hox:=(hd rfl).ix i o hi
    rw [Option.map_some,hox]
    simp [this]
  obtain ⟨r1,_,_,r4,_⟩:=b2u ops _ e2 [] tr he (by rw [hix];exact List.nodup_range) (by simp)
  refine wpIn_region_any hmix ?_
  refine b8F hK hm (hd rfl) (by simpa using hk) tr ro ops'.size ops _ _ e2 a _ g (by rw [hlen];simp) (List.Sublist.refl _) (by simp) (fun i hi=>?_) (fun i o' ho' hl=>?_) r1 r4 (hroom.rel.grow (Grows.drew g w)) (fun a' w' g' s1 hg hE hdf=>?_)
  ·have h1:(Array.replicate ops'.size false).getD i true=false:=by simp [Array.getD,hi]
   rw [h1]
   simp only [true_iff]
   have:i<ops.length:=by rw [hlen];simpa using hi
   exact ⟨ops[i],List.getElem_mem this,(hd rfl).ix i _ (List.getElem?_eq_getElem this)⟩
  ·have hi:i<ops'.size:=(Array.getElem?_eq_some_iff.1 ho').1
   simp [Array.getD,hi] at hl
  ·refine hn rfl a' w' g' ?_ hdf
   have h1:Goes S G nt g g' s s1 a a' w w':=(hroom.trans (Goes.grow hroom.rel (Grows.drew g w))).trans hg
   have h2:=h1.trans (.restrict h1.rel keep)
   rw [b4R hE keep] at h2
   exact h2
end
end Go.Pm
namespace Go.Pm
section
variable {S:Seat} {G:List Nat} {g g' g'' g1:Gh} {nt:Nat} {s s' s'' s1:St} {a a' a'' a1:Act} {w w' w'' w1:World} {h h':List Obj} {base:Nat}
theorem b5W {n:Nat} (hR:Rel S G g nt s a w) {D A:Nat->Prop} (hA:∀ r,r<n->g.A r->A r) {i:Nat} (hu:(get s.t i).under n=true):RT S (g.kill s.h w D A) w (get s.t i) (a.tmps.getD i undef):=by
 have ht:=hR.tm i
 generalize hv:get s.t i=v at ht hu
 generalize hx:a.tmps.getD i undef=x at ht
 cases ht with
 | rv _ _ h=>exact .rv _ _ (h.keep hu hA rfl (fun _ _ _ e=>a3O hR.hp e) (fun _ _ e=>a3A hR.hp e))
 | none es=>exact .none es
 | own q es l b off cap ho =>
  have hc:a0S s.t a.tmps i b:=⟨q,es,l,_,_,_,hv,hx,rfl⟩
  exact .own _ _ _ _ _ _ (ho.keep (fun _ _ _ e=>a3O hR.hp e) (fun _ _ e=>a3A hR.hp e) rfl fun o hoo=>by
   rw [a6p (fun r o e hl=>hR.clT i b r o hc e hl)];exact hoo)
theorem a9T (hR:RelH S G g h w) (n:Nat) (hun:(h.take n).all (Obj.under n)=true):Dies h (h.take n) (fun r=>n<=r) (fun r=>g.A r/\r<n) g:=by
 have hg:∀ (r:Nat) o,(h.take n)[r]?=some o->h[r]?=some o/\r<n:=fun r o e=>by
  rw [List.getElem?_take] at e
  split at e
  ·rename_i hlt;exact ⟨e,hlt⟩
  ·cases e
 refine ⟨fun r o e _=>⟨(hg r o e).1,fun hx=>absurd (hg r o e).2 (by show ¬ r<n;omega)⟩,fun r ⟨hA,hlt⟩=>?_,fun r o e hl=>⟨hR.lv r o (hg r o e).1 hl,(hg r o e).2⟩,fun r h=>h.1,fun r o e _=>⟨n,c2y (List.all_eq_true.1 hun o (List.mem_of_getElem? e)),fun r' hr' hA=>⟨hA,hr'⟩⟩⟩
 obtain ⟨o,ho,hf⟩:=hR.as r hA
 exact ⟨o,by rw [List.getElem?_take,if_pos hlt];exact ho,hf⟩
theorem Goes.trim (hR:Rel S G g nt s a w) (hG:Goes S G nt g g1 s s1 a a1 w w1) {keep:List Nat} {s2:St} (e:trim keep s.h.length s1=some s2):∃ g2,Goes S G nt g g2 s s2 a a1 w w1:=by
 simp only [Pm.trim] at e
 split at e
 ·rename_i hall
  obtain ⟨hall,hun⟩:=hall
  simp only [Option.some.injEq] at e
  subst e
  have hu:∀ i,(get (Pm.restrict keep s1.t) i).under s.h.length=true:=fun i=>by
   rw [a2s]
   split
   ·rename_i hi
    have:=List.all_eq_true.1 hall (i,get s1.t i) (List.mem_map.2 ⟨i,hi,rfl⟩)
    exact this
   ·rfl
  have hr:=hG.trans (.restrict hG.rel keep)
  refine ⟨_,hr.kills (a9T hr.rel.hp s.h.length hun) (fun r hA=>⟨hG.le.as r hA,A_lt hR.hp hA⟩) (fun i=>b5W hr.rel (fun r hlt hA=>⟨hA,hlt⟩) (hu i)) (fun _ _ h=>h)⟩
 ·cases e
theorem Goes.die (hR:Rel S G g nt s a w) {p:Nat} {o:Obj} (hp:s.h[p]?=some o):Goes S G nt g (g.kill s.h w (fun r=>r=p) g.A) s ⟨s.t,s.h.set p .dead⟩ a a w w :=
 (Goes.refl hR).kills (b0Z hR.hp hp) (fun _ h=>h) (a8A hR) (fun _ _ h=>h)
theorem b4f (hR:RelH S G g h w) {D A:Nat->Prop} {p:Nat} {cs:List C} (hp:h[p]?=some (.var cs)) (hD:D p) {cs':List C} (hl:cs'.length=cs.length) (hpure:C.a0v cs'=true)
 (hr:∀ (j:Nat) c c' v,cs[j]?=some c->cs'[j]?=some c'->RO S g w c v->RC S (g.kill h w D A) c' v) (off:Nat) :
 RC S (g.kill h w D A) (.eptr cs' off) (.pointer (some ⟨g.σ p,off,none⟩)):=by
 obtain ⟨vals,elem,hb,hs,hro⟩:=hR.ob p _ hp
 have key:∀ j,j<cs'.length->∃ c v,cs[j]?=some c/\vals[j]?=some v/\(g.kill h w D A).M (g.σ p) (0+j)=some v:=fun j hj=>by
  have hj1:j<cs.length:=by omega
  have hj2:j<vals.size:=by omega
  refine ⟨cs[j],vals[j],List.getElem?_eq_getElem hj1,Array.getElem?_eq_getElem hj2,?_⟩
  simp only [Gh.kill,Nat.zero_add]
  rw [if_pos ⟨p,cs,hD,hp,rfl⟩,cell_of_heap hb,Array.getElem?_eq_getElem hj2]
 have:=RC.eptr (S:=S) (g:=g.kill h w D A) cs' off (g.σ p) 0 (fun j=>(vals[j]?).getD undef) hpure (fun j hj=>by
  obtain ⟨c,v,_,h2,h3⟩:=key j hj
  rw [h3,h2];rfl) (fun j c' hc'=>by
  obtain ⟨c,v,h1,h2,_⟩:=key j (List.getElem?_eq_some_iff.1 hc').1
  rw [h2]
  exact hr j c c' v h1 hc' (hro j c v h1 h2))
 rw [Nat.zero_add] at this
 exact this
theorem Goes.f0M (hR:Rel S G g nt s a w) {t:List (Nat × V)} (ht:∀ j,RT S g w (get t j) (a.tmps.getD j undef)) (hc:∀ j b,a0S t a.tmps j b->a0S s.t a.tmps j b):Goes S G nt g g s ⟨t,s.h⟩ a a w w :=
 ⟨.refl g,⟨hR.hp,hR.sz,ht,fun i i' b c d=>hR.exT i i' b (hc i b c) (hc i' b d),fun i b r j c d=>hR.exTH i b r j (hc i b c) d,fun i b r o c e hl=>hR.clT i b r o (hc i b c) e hl⟩,.refl _ w,fun b _ hp=>by
  rcases hp with h|⟨i,c⟩
  ·exact .inl h
  ·exact .inr ⟨i,hc i b c⟩,fun _ _ _ h=>.inl h,fun _ _ h=>.inl h⟩
theorem f2r (hR:Rel S G g nt s a w) {i es b off cap:Nat} {l:List (List C)} (he:get s.t i=.sc (.own true es l)) (hx:a.tmps.getD i undef=.slice (some ⟨b,off,none⟩) l.length cap) (ho:OwnAt S g w true es l b off cap) :
 Goes S G nt g (g.with s.h.length b) s ⟨(i,.sc (.msl s.h.length 0 l.length 0 es))::s.t,s.h++[.var l.flatten]⟩ a a w w:=by
 obtain ⟨h0,hne,hcap,hl,hp,hc⟩:=ho.prv rfl
 subst h0
 have hcT:a0S s.t a.tmps i b:=⟨true,es,l,_,_,_,he,hx,rfl⟩
 have hrm:=Goes.room hR 1
 have hRr:=hrm.rel
 have hRd:Rel S G g nt ⟨drop [i] s.t,s.h++List.replicate 1 .free⟩ a w:=hRr.drop [i]
 have hfree:(s.h++List.replicate 1 Obj.free)[s.h.length]?=some .free:=by simp
 have hcTr:a0S ({ s with h:=s.h++List.replicate 1 Obj.free }:St).t a.tmps i b:=hcT
 have hne':∀ r,g.A r->r≠s.h.length:=fun r hA h=>by have:=A_lt hR.hp hA;omega
 have hle:g.Le (g.with s.h.length b):=⟨fun r h=>.inr h,fun r h=>by simp [Gh.with,hne' r h],fun _ _ _ h=>h,fun _ _ h=>h⟩
 have hσ:(g.with s.h.length b).σ s.h.length=b:=by simp [Gh.with]
 obtain ⟨cs,elem,hb,hsz⟩:=ho.blk
 have hlen:l.flatten.length=l.length*es:=a2G hl
 have hN:g.N b=none:=by
  cases e:g.N b with
  | none=>rfl
  | some v =>
   obtain ⟨n,hn,_⟩:=hR.hp.mm b v e
   rw [hb] at hn;cases hn
 have hcap':l.length*es<=cap*es:=Nat.mul_le_mul_right _ hcap
 obtain ⟨h1,h2,h3⟩:=Rel.write (Q:=Perm g s a w) (g':=g.with s.h.length b) (w':=w) (o:=.free) (o':=.var l.flatten) (takes:=[]) (off0:=0) (p:=s.h.length) hRd (fun c hpm=>by
  rcases hpm with h|⟨j,h⟩
  ·exact hrm.back c (by
    rcases h with ⟨r,o,k1,k2,rfl⟩|⟨r,j,hcl⟩
    ·exact a3e hRr.hp k1 k2
    ·exact a9R hRr.hp hcl) (.inl h)
  ·exact .inr ⟨j,h.a2X.1⟩) hfree rfl hle (fun r h=>h) (.inl rfl) (fun r hr=>by simp [Gh.with,hr]) rfl rfl
  (fun r o e hl1 _=>by rw [hσ];exact fun h=>hRr.clT i b r o hcTr e hl1 h) (fun r j c hcl=>by
   rw [hσ];rintro rfl;exact hRr.exTH i c r j hcTr hcl) (fun j c hcl=>by
   rw [hσ]
   rintro rfl
   obtain ⟨k1,k2⟩:=hcl.a2X
   exact k2 (by rw [hR.exT j i c k1 hcT];simp)) (fun k=>by rw [hσ];exact ho.spare k (.inl rfl)) (by rw [hσ];exact hN) (fun _ _ _=>rfl) (Nat.le_refl _) rfl rfl rfl (fun _=>by rw [hσ];exact .inr ⟨i,hcT⟩)
  (by
   rw [hσ]
   refine ⟨cs,elem,hb,by omega,fun j c x e1 e2=>?_⟩
   obtain ⟨v,hv,hr⟩:=hc j c e1
   rw [cell_of_heap hb,e2] at hv
   cases hv
   exact .rc _ _ (hr.mono hle)) (by
   rintro j c ⟨cs',es',l',vals,elem',fr,ad,n,cap',e1,e2,_⟩
   simp at e1
   subst e1
   exact absurd (a2d (e7Z hp) e2) (by simp [C.pure]))
 have hh:(s.h++List.replicate 1 Obj.free).set s.h.length (.var l.flatten)=s.h++[.var l.flatten]:=by simp
 simp only [drop_nil,hh] at h1 h3
 have hrv:RV S (g.with s.h.length b) (.sc (.msl s.h.length 0 l.length 0 es)) (a.tmps.getD i undef):=by
  rw [hx]
  have:=RC.msl (S:=S) (g:=g.with s.h.length b) s.h.length 0 l.length 0 es cap (.inl rfl) hcap (.inl rfl)
  rw [hσ] at this
  exact .sc _ _ this
 have hg:∀ j,get ((i,V.sc (.msl s.h.length 0 l.length 0 es))::s.t) j=if i=j then .sc (.msl s.h.length 0 l.length 0 es) else get (drop [i] s.t) j:=fun j=>by
  rw [a7T]
  simp only [get]
  by_cases hij:i=j
  ·rw [if_pos hij,if_pos hij]
  ·rw [if_neg hij,if_neg hij,if_neg (by simpa using fun h=>hij h.symm)]
 have h4:=Goes.f0M h1 (t:=(i,.sc (.msl s.h.length 0 l.length 0 es))::s.t) (fun j=>by
  rw [hg]
  split
  ·rename_i hij;subst hij;exact .rv _ _ hrv
  ·exact h1.tm j) (fun j c ⟨p,es',l',ad,n,cap',k1,k2,k3⟩=>by
  rw [hg] at k1
  split at k1
  ·cases k1
  ·exact ⟨p,es',l',ad,n,cap',k1,k2,k3⟩)
 exact ⟨hle,h4.rel,h2,fun c hcl hpm=>h3 c hcl (h4.back c hcl hpm),fun _ _ _ h=>.inl h,fun _ _ h=>.inl h⟩
theorem b5o (hR:Rel S G g nt s a w) {i:Nat} (e:frozen i s=some s1):∃ g1,Goes S G nt g g1 s s1 a a w w:=by
 simp only [frozen] at e
 split at e
 ·rename_i p off hi
  split at e
  ·rename_i cs hcs
   split at e
   ·rename_i hpure
    simp only [Option.some.injEq] at e
    subst e
    have hle:g.Le (g.kill s.h w (fun r=>r=p) g.A):=b2Q hR.hp (fun _ h=>h)
    have hev:RV S (g.kill s.h w (fun r=>r=p) g.A) (.sc (.eptr (cs.map Pm.a0r) off)) (a.tmps.getD i undef):=by
     have ht:=hR.tm i
     rw [hi] at ht
     cases ht with
     | rv _ _ h =>
      obtain ⟨_,hx⟩:=h.a3J
      rw [hx]
      exact .sc _ _ (b4f (D:=fun r=>r=p) (A:=g.A) hR.hp hcs rfl (by simp) hpure (fun j c c' v h1 h2 h3=>by
       rw [List.getElem?_map,h1] at h2
       simp only [Option.map_some,Option.some.injEq] at h2
       subst h2
       exact h3.a0r.mono hle) off)
    refine ⟨_,(Goes.refl hR).kills (b0Z hR.hp hcs) (fun _ h=>h) (fun j=>?_) (fun j b hc=>?_)⟩
    ·show RT S _ w (get ((i,_)::s.t) j) _
     simp only [get]
     split
     ·rename_i hij;subst hij;exact .rv _ _ hev
     ·exact a8A hR j
    ·obtain ⟨p,es,l,ad,n,cap,h1,h2,h3⟩:=hc
     simp only [get] at h1
     split at h1
     ·cases h1
     ·exact ⟨p,es,l,ad,n,cap,h1,h2,h3⟩
   ·cases e
  ·cases e
 ·rename_i es hi
  simp only [Option.some.injEq] at e
  subst e
  have ht:=hR.tm i
  rw [hi] at ht
  have hx:a.tmps.getD i undef=.slice none 0 0:=by
   generalize a.tmps.getD i undef=x at ht
   cases ht with
   | rv _ _ h =>
    cases h with
    | sc _ _ h =>
     cases h with
     | slNil=>rfl
     | sl _ _ _ _ _ _ _ hk=>exact absurd rfl hk
  refine ⟨g,Goes.f0M hR (fun j=>?_) (fun j b hc=>?_)⟩
  ·show RT S g w (get ((i,_)::s.t) j) _
   simp only [get]
   split
   ·rename_i hij;subst hij;rw [hx];exact .none es
   ·exact hR.tm j
  ·obtain ⟨p,es',l,ad,n,cap,h1,h2,h3⟩:=hc
   simp only [get] at h1
   split at h1
   ·rename_i hij;subst hij;rw [hx] at h2;cases h2
   ·exact ⟨p,es',l,ad,n,cap,h1,h2,h3⟩
 ·rename_i es hi
  simp only [Option.some.injEq] at e
  subst e
  have ht:=hR.tm i
  rw [hi] at ht
  have hx:a.tmps.getD i undef=.slice none 0 0:=by
   generalize a.tmps.getD i undef=x at ht
   cases ht with
   | rv _ _ h =>
    cases h with
    | sc _ _ h=>exact absurd rfl (h.a2a _ _ _)
   | own _ _ _ b off cap ho=>exact absurd rfl (ho.prv rfl).2.1
   | none _=>rfl
  refine ⟨g,Goes.f0M hR (fun j=>?_) (fun j b hc=>?_)⟩
  ·show RT S g w (get ((i,_)::s.t) j) _
   simp only [get]
   split
   ·rename_i hij;subst hij;rw [hx];exact .rv _ _ (.sc _ _ (.slNil es))
   ·exact hR.tm j
  ·obtain ⟨p,es',l,ad,n,cap,h1,h2,h3⟩:=hc
   simp only [get] at h1
   split at h1
   ·cases h1
   ·exact ⟨p,es',l,ad,n,cap,h1,h2,h3⟩
 ·rename_i es e0 l hi
  simp only [Option.some.injEq] at e
  subst e
  have ht:=hR.tm i
  rw [hi] at ht
  generalize hx:a.tmps.getD i undef=x at ht
  cases ht with
  | rv _ _ h =>
   cases h with
   | sc _ _ h=>exact absurd rfl (h.a2a _ _ _)
  | own _ _ _ b off cap ho=>exact ⟨_,f2r hR hi hx ho⟩
 ·cases e
theorem b4d (hR:RelH S G g h w) {D A:Nat->Prop} {p:Nat} {ka va:Bool} {l:List (List C × List C)} (hp:h[p]?=some (.map ka va l none)) (hD:D p) :
 RC S (g.kill h w D A) (.imap ka va l) (.map (some (g.σ p))):=by
 obtain ⟨es,hb,h1,h2,h3,_⟩:=hR.ob p _ hp
 simp at h2
 have hN:(g.kill h w D A).N (g.σ p)=some es:=by
  simp only [Gh.kill]
  rw [if_pos ⟨p,_,hD,hp,rfl,rfl⟩,hb]
 have hex:∀ i:Nat,∃ q:List Value × List Value,∀ e,l[i]?=some e->∃ m,es[i]?=some m/\(m.key=ofV ka q.1/\q.1.length=e.1.length/\(ka=false->e.1.length=1)/\∀ (j:Nat) c x,e.1[j]?=some c->q.1[j]?=some x->RC S g c x) ∧
  (m.val=ofV va q.2/\q.2.length=e.2.length/\(va=false->e.2.length=1)/\∀ (j:Nat) c x,e.2[j]?=some c->q.2[j]?=some x->RC S g c x)/\C.a0v e.1=true/\C.a0v e.2=true:=by
  intro i
  cases hi:l[i]? with
  | none=>exact ⟨([],[]),fun e he=>by cases he⟩
  | some e =>
   have hlt:i<es.size:=by rw [h2];exact (List.getElem?_eq_some_iff.1 hi).1
   obtain ⟨⟨ks,k1⟩,⟨vs,k2⟩,k3,k4⟩:=h3 i e _ hi (Array.getElem?_eq_getElem hlt)
   refine ⟨(ks,vs),fun e' he=>?_⟩
   cases he
   exact ⟨es[i],Array.getElem?_eq_getElem hlt,k1,k2,k3,k4⟩
 let kv:Nat->List Value:=fun i=>(Classical.choose (hex i)).1
 let vv:Nat->List Value:=fun i=>(Classical.choose (hex i)).2
 have key:∀ (i:Nat) e,l[i]?=some e->∃ m,es[i]?=some m/\(m.key=ofV ka (kv i)/\(kv i).length=e.1.length/\(ka=false->e.1.length=1)/\∀ (j:Nat) c x,e.1[j]?=some c->(kv i)[j]?=some x->RC S g c x) ∧
  (m.val=ofV va (vv i)/\(vv i).length=e.2.length/\(va=false->e.2.length=1)/\∀ (j:Nat) c x,e.2[j]?=some c->(vv i)[j]?=some x->RC S g c x)/\C.a0v e.1=true/\C.a0v e.2=true :=
  fun i e hi=>Classical.choose_spec (hex i) e hi
 refine .imap ka va l (g.σ p) es kv vv hN h2 (fun i e hi=>?_) (fun i e hi=>?_) (fun i e j c v hi hc hv=>?_) (fun i e j c v hi hc hv=>?_)
 ·obtain ⟨m,hm,k1,k2,_⟩:=key i e hi
  exact ⟨m,hm,k1.1,k2.1⟩
 ·obtain ⟨m,hm,k1,k2,k3,k4⟩:=key i e hi
  exact ⟨k1.2.1,k2.2.1,k1.2.2.1,k2.2.2.1,k3,k4⟩
 ·obtain ⟨m,hm,k1,k2,k3,k4⟩:=key i e hi
  exact (k1.2.2.2 j c v hc hv).a3I (a2d k3 hc) (fun _ _ _ e=>a3O hR e) (fun _ _ e=>a3A hR e)
 ·obtain ⟨m,hm,k1,k2,k3,k4⟩:=key i e hi
  exact (k2.2.2.2 j c v hc hv).a3I (a2d k4 hc) (fun _ _ _ e=>a3O hR e) (fun _ _ e=>a3A hR e)
end
end Go.Pm
namespace Go.Pm
section
variable {S:Seat} {G:List Nat} {g g' g'' g1:Gh} {nt:Nat} {s s' s'' s1:St} {a a' a'' a1:Act} {w w' w'' w1:World} {h h':List Obj} {base:Nat}
theorem b0E:∀ (n:Nat) (cs:List C) (off es:Nat) (l:List (List C)),chunks cs off es n=some l->l.length=n/\∀ i e,l[i]?=some e->e.length=es/\∀ j,j<es->e[j]?=cs[off+i*es+j]?
 | 0,cs,off,es,l,e=>by simp only [chunks,Option.some.injEq] at e;subst e;exact ⟨rfl,fun i e h=>by simp at h⟩
 | n+1,cs,off,es,l,e=>by
  simp only [chunks] at e
  split at e
  ·rename_i c hc
   simp only [Option.map_eq_some_iff] at e
   obtain ⟨r,hr,rfl⟩:=e
   obtain ⟨h1,h2⟩:=b0E n cs (off+es) es r hr
   obtain ⟨h3,h4⟩:=a6i es cs off c hc
   refine ⟨by simp [h1],fun i e hi=>?_⟩
   rcases i with _|i
   ·simp at hi
    subst hi
    exact ⟨h3,fun j hj=>by rw [h4 j hj];congr 1;omega⟩
   ·obtain ⟨k1,k2⟩:=h2 i e (by simpa using hi)
    exact ⟨k1,fun j hj=>by rw [k2 j hj];congr 1;rw [Nat.add_mul,Nat.one_mul];omega⟩
  ·cases e
theorem b4e (hR:RelH S G g h w) {D A:Nat->Prop} {p:Nat} {cs:List C} (hp:h[p]?=some (.var cs)) (hD:D p) {vals:Array Value} {elem:TypeId} (hb:w.heap[g.σ p]?=some (.cells vals elem (0,0))) {cs2:List C} (hl:cs2.length=cs.length) (hpure:C.a0v cs2=true)
 (hr:∀ (j:Nat) c v,cs2[j]?=some c->vals[j]?=some v->RC S (g.kill h w D A) c v) {off len es cap cap':Nat} {l:List (List C)} (hc:chunks cs2 off es len=some l) (hle:len<=cap') (hcc:cap=0\/cap=cap') :
 RC S (g.kill h w D A) (.sl (if cap=len/\cap≠0 then .full else .shared) es l) (.slice (some ⟨g.σ p,off,none⟩) len cap'):=by
 obtain ⟨vals',elem',hb',hs,_⟩:=hR.ob p _ hp
 rw [hb] at hb'
 simp only [Option.some.injEq,Obj.cells.injEq] at hb'
 obtain ⟨rfl,rfl,_⟩:=hb'
 obtain ⟨c1,c2⟩:=b0E len cs2 off es l hc
 subst c1
 have key:∀ (i:Nat) (e:List C) (j:Nat),l[i]?=some e->j<es->∃ c v,e[j]?=some c/\cs2[off+i*es+j]?=some c/\vals[off+i*es+j]?=some v/\(g.kill h w D A).M (g.σ p) (off+i*es+j)=some v:=fun i e j hi hj=>by
  obtain ⟨k1,k2⟩:=c2 i e hi
  have hej:e[j]?=some (e[j]'(by omega)):=List.getElem?_eq_getElem _
  have h3:=k2 j hj
  rw [hej] at h3
  have hlt:off+i*es+j<cs.length:=by rw [← hl];exact (List.getElem?_eq_some_iff.1 h3.symm).1
  have hlt2:off+i*es+j<vals.size:=by omega
  refine ⟨_,vals[off+i*es+j],hej,h3.symm,Array.getElem?_eq_getElem hlt2,?_⟩
  simp only [Gh.kill]
  rw [if_pos ⟨p,cs,hD,hp,rfl⟩,cell_of_heap hb,Array.getElem?_eq_getElem hlt2]
 have hpl:∀ (i:Nat) (e:List C),l[i]?=some e->C.a0v e=true:=fun i e hi=>by
  refine b0j.2 fun c hc=>?_
  obtain ⟨j,hj⟩:=List.getElem?_of_mem hc
  have hjl:j<es:=by rw [← (c2 i e hi).1];exact (List.getElem?_eq_some_iff.1 hj).1
  obtain ⟨c',v,k1,k2,_⟩:=key i e j hi hjl
  rw [hj] at k1
  cases k1
  exact a2d hpure k2
 refine .sl _ es l (g.σ p) off cap' (fun i j=>(vals[off+i*es+j]?).getD undef) (by split<;>simp) (fun hk=>?_) hle (fun i e hi=>(c2 i e hi).1) hpl (fun i e j hi hj=>?_) (fun i e j c hi hj=>?_)
 ·split at hk
  ·omega
  ·cases hk
 ·obtain ⟨c,v,_,_,k3,k4⟩:=key i e j hi hj
  rw [k4,k3];rfl
 ·have hjl:j<es:=by rw [← (c2 i e hi).1];exact (List.getElem?_eq_some_iff.1 hj).1
  obtain ⟨c',v,k1,k2,k3,k4⟩:=key i e j hi hjl
  rw [hj] at k1
  cases k1
  rw [k3]
  exact hr _ c v k2 k3
def c3j (S:Seat) (G:List Nat) (nt:Nat) (a:Act) (w:World) (n:Nat):Prop :=
 (∀ (c c':C) (s:St) (h':List Obj) (g:Gh),Rel S G g nt s a w->a3p n c s.h=some (c',h') →
  ∃ g',Goes S G nt g g' s ⟨s.t,h'⟩ a a w w/\(c'=c\/(c'.pure=true/\(∀ p es l,c≠.own p es l)/\∀ v,RC S g c v->RC S g' c' v))/\∀ (r:Nat) x,h'[r]?=some (.var x)->s.h[r]?=some (.var x)) ∧
 (∀ (cs cs':List C) (s:St) (h':List Obj) (g:Gh),Rel S G g nt s a w->a2Z n cs s.h=some (cs',h') →
  ∃ g',Goes S G nt g g' s ⟨s.t,h'⟩ a a w w/\cs'.length=cs.length ∧
   (∀ (j:Nat) c',cs'[j]?=some c'->∃ c,cs[j]?=some c/\(c'=c\/(c'.pure=true/\(∀ p es l,c≠.own p es l)/\∀ v,RC S g c v->RC S g' c' v)))/\∀ (r:Nat) x,h'[r]?=some (.var x)->s.h[r]?=some (.var x))
theorem a9X:∀ n,c3j S G nt a w n
 | 0=>⟨fun c c' s h' g _ e=>by simp [a3p] at e,fun cs cs' s h' g _ e=>by simp [a2Z] at e⟩
 | n+1=>by
  obtain ⟨ih1,ih2⟩:=a9X n
  refine ⟨fun c c' s h' g hR e=>?_,fun cs cs' s h' g hR e=>?_⟩
  ·have other:some (c,s.h)=some (c',h')->∃ g',Goes S G nt g g' s ⟨s.t,h'⟩ a a w w/\(c'=c\/(c'.pure=true/\(∀ p es l,c≠.own p es l)/\∀ v,RC S g c v->RC S g' c' v))/\∀ (r:Nat) x,h'[r]?=some (.var x)->s.h[r]?=some (.var x):=fun e=>by
    simp only [Option.some.injEq,Prod.mk.injEq] at e
    obtain ⟨rfl,rfl⟩:=e
    exact ⟨g,.refl hR,.inl rfl,fun _ _ h=>h⟩
   unfold a3p at e
   split at e
   ·rename_i p
    split at e
    ·rename_i ka va l hp
     simp only [Option.some.injEq,Prod.mk.injEq] at e
     obtain ⟨rfl,rfl⟩:=e
     have him:=b4d (D:=fun r=>r=p) (A:=g.A) hR.hp hp rfl
     refine ⟨_,Goes.die hR hp,.inr ⟨rfl,by simp,fun v hv=>?_⟩,fun r x hx=>?_⟩
     ·obtain ⟨_,rfl⟩:=a7G (.sc _ _ hv)
      exact him
     ·rcases a3H hx with ⟨_,h2,_⟩|⟨_,h2⟩
      ·cases h2
      ·exact h2
    ·rename_i n0 f0 hp
     simp only [Option.some.injEq,Prod.mk.injEq] at e
     obtain ⟨rfl,rfl⟩:=e
     have him:=b0Y (D:=fun r=>r=p) (A:=g.A) hR.hp hp rfl
     refine ⟨_,Goes.die hR hp,.inr ⟨rfl,by simp,fun v hv=>?_⟩,fun r x hx=>?_⟩
     ·obtain ⟨_,rfl⟩:=a7G (.sc _ _ hv)
      exact him
     ·rcases a3H hx with ⟨_,h2,_⟩|⟨_,h2⟩
      ·cases h2
      ·exact h2
    ·cases e
   ·rename_i r off len cap es
    split at e
    ·rename_i cs hcs
     split at e
     ·rename_i cs2 h1 hm
      split at e
      ·rename_i cs3 hr1
       split at e
       ·rename_i hpure
        simp only [Option.map_eq_some_iff,Prod.mk.injEq] at e
        obtain ⟨l,hl,rfl,rfl⟩:=e
        obtain ⟨g1,hG1,hlen,hrel,hkeep⟩:=ih2 (cs.map a0r) cs2 s h1 g hR hm
        have hcs3:=hkeep r cs3 hr1
        rw [hcs] at hcs3
        simp only [Option.some.injEq,Obj.var.injEq] at hcs3
        subst hcs3
        have hA:=hR.hp.lv r _ hcs rfl
        obtain ⟨vals,elem,hb,hs,hro⟩:=hR.hp.ob r _ hcs
        have hσ:g1.σ r=g.σ r:=hG1.le.eq r hA
        have hle:g1.Le (g1.kill h1 w (fun x=>x=r) g1.A):=b2Q hG1.rel.hp (fun _ h=>h)
        refine ⟨_,hG1.trans (Goes.die hG1.rel hr1),.inr ⟨rfl,by simp,fun v hv=>?_⟩,fun q x hx=>?_⟩
        ·cases hv with
         | msl _ _ _ _ _ cap' hA' hle' hcc =>
          have:=b4e (D:=fun x=>x=r) (A:=g1.A) hG1.rel.hp hr1 rfl (by rw [hσ];exact hb) (by rw [hlen];simp) hpure (fun j c v hc hv=>by
           obtain ⟨c0,hc0,hcase⟩:=hrel j c hc
           rw [List.getElem?_map] at hc0
           cases hcj:cs[j]? with
           | none=>rw [hcj] at hc0;cases hc0
           | some c1 =>
            rw [hcj] at hc0
            simp only [Option.map_some,Option.some.injEq] at hc0
            subst hc0
            have hrc:=(hro j c1 v hcj hv).a0r
            rcases hcase with rfl|⟨_,_,h3⟩
            ·exact (hrc.mono hG1.le).mono hle
            ·exact (h3 v hrc).mono hle) hl hle' hcc
          rw [hσ] at this
          exact this
        ·rcases a3H hx with ⟨_,h2,_⟩|⟨_,h2⟩
         ·cases h2
         ·exact hkeep q x h2
       ·cases e
      ·cases e
     ·cases e
    ·cases e
   ·exact other e
  ·cases cs with
   | nil =>
    simp only [a2Z,Option.some.injEq,Prod.mk.injEq] at e
    obtain ⟨rfl,rfl⟩:=e
    exact ⟨g,.refl hR,rfl,fun j c h=>by simp at h,fun _ _ h=>h⟩
   | cons c cs =>
    simp only [a2Z] at e
    split at e
    ·rename_i c1 h1 hc1
     split at e
     ·rename_i cs1 h2 hcs1
      simp only [Option.some.injEq,Prod.mk.injEq] at e
      obtain ⟨rfl,rfl⟩:=e
      obtain ⟨g1,hG1,hr1,hk1⟩:=ih1 c c1 s h1 g hR hc1
      obtain ⟨g2,hG2,hlen,hr2,hk2⟩:=ih2 cs cs1 ⟨s.t,h1⟩ h2 g1 hG1.rel hcs1
      refine ⟨g2,hG1.trans hG2,by simp [hlen],fun j c' hj=>?_,fun r x hx=>hk1 r x (hk2 r x hx)⟩
      rcases j with _|j
      ·simp at hj
       subst hj
       refine ⟨c,rfl,?_⟩
       rcases hr1 with h|⟨h,h0,h3⟩
       ·exact .inl h
       ·exact .inr ⟨h,h0,fun v hv=>(h3 v hv).mono hG2.le⟩
      ·obtain ⟨c0,h0,h3⟩:=hr2 j c' (by simpa using hj)
       refine ⟨c0,by simpa using h0,?_⟩
       rcases h3 with h|⟨h,h4,h5⟩
       ·exact .inl h
       ·exact .inr ⟨h,h4,fun v hv=>h5 v (hv.mono hG1.le)⟩
     ·cases e
    ·cases e
theorem Goes.b4T (hR:Rel S G g nt s a w) {t:List (Nat × V)} (ht:∀ i,get t i=get s.t i\/RV S g (get t i) (a.tmps.getD i undef)):Goes S G nt g g s { t:=t,h:=s.h } a a w w where
 le:=.refl g
 rel:=hR.b4T ht
 keeps:=.refl _ w
 back:=fun b _ hp=>by
  rcases hp with h|⟨i,p,es,l,ad,n,cap,h1,h2,h3⟩
  ·exact .inl h
  ·have h1':get t i=.sc (.own p es l):=h1
   rcases ht i with e|e
   ·rw [e] at h1';exact .inr ⟨i,p,es,l,ad,n,cap,h1',h2,h3⟩
   ·rw [h1'] at e
    cases e with
    | sc _ _ h=>exact absurd rfl (h.a2a _ es l)
 im:=fun _ _ _ h=>.inl h
 mm:=fun _ _ h=>.inl h
theorem b4p (hR:Rel S G g nt s a w) {i:Nat} (e:a3G i s=some s1):∃ g1,Goes S G nt g g1 s s1 a a w w:=by
 simp only [a3G] at e
 split at e
 ·rename_i p off hi
  split at e
  ·rename_i cs hcs
   split at e
   ·rename_i cs' h' hm
    split at e
    ·rename_i cs3 hp
     simp only [Option.some.injEq] at e
     subst e
     obtain ⟨g1,h1,h2,h3,h4⟩:=(a9X (S:=S) (G:=G) (nt:=nt) (a:=a) (w:=w) 400).2 cs cs' s h' g hR hm
     have hcs3:=h4 p cs3 hp
     rw [hcs] at hcs3
     simp only [Option.some.injEq,Obj.var.injEq] at hcs3
     subst hcs3
     obtain ⟨vals,elem,hb,hs,hro⟩:=h1.rel.hp.ob p _ hp
     obtain ⟨vals0,elem0,hb0,_,hro0⟩:=hR.hp.ob p _ hcs
     have hσ:g1.σ p=g.σ p:=h1.le.eq p (hR.hp.lv p _ hcs rfl)
     rw [hσ] at hb
     rw [hb0] at hb
     simp only [Option.some.injEq,Obj.cells.injEq] at hb
     obtain ⟨rfl,rfl,_⟩:=hb
     have hplt:p<h'.length:=(List.getElem?_eq_some_iff.1 hp).1
     have hgo:=Goes.modify (takes:=[]) (off0:=0) (o':=.var cs') (w':=w) h1.rel hp rfl rfl (fun _ _=>rfl) rfl rfl rfl rfl ⟨vals0,elem0,by rw [hσ];exact hb0,by rw [h2];exact hs,fun j c' v e1 e2=>by
      obtain ⟨c,hc,h|⟨k1,k2,k3⟩⟩:=h3 j c' e1
      ·subst h;exact hro j c' v hc e2
      ·have:=hro0 j _ v hc e2
       cases this with
       | rc _ _ hrc=>exact .rc _ _ (k3 v hrc)
       | own es l=>exact absurd rfl (k2 _ es l)⟩ (fun j b hc=>by
      obtain ⟨cs2,es,l,vals,elem,fr,ad,n,cap,e1,e2,e3,e4,e5⟩:=hc
      simp [hplt] at e1
      subst e1
      obtain ⟨c,hc,h|⟨k1,_,_⟩⟩:=h3 j _ e2
      ·subst h;exact .inl ⟨cs,es,l,vals,elem,fr,ad,n,cap,hp,hc,e3,e4,e5⟩
      ·simp [C.pure] at k1)
     exact ⟨g1,h1.trans hgo⟩
    ·cases e
   ·cases e
  ·cases e
 ·rename_i r off len cap es hi
  split at e
  ·rename_i c' h' hc
   simp only [Option.some.injEq] at e
   subst e
   obtain ⟨g1,h1,h2,_⟩:=(a9X (S:=S) (G:=G) (nt:=nt) (a:=a) (w:=w) 400).1 _ c' s h' g hR hc
   refine ⟨g1,h1.trans (Goes.b4T h1.rel (t:=(i,.sc c')::s.t) fun j=>?_)⟩
   show get ((i,V.sc c')::s.t) j=get s.t j\/_
   simp only [get]
   split
   ·rename_i hij
    subst hij
    rcases h2 with rfl|⟨_,_,h3⟩
    ·exact .inl hi.symm
    ·have ht:=hR.tm i
     rw [hi] at ht
     cases ht with
     | rv _ _ h =>
      cases h with
      | sc _ _ h=>exact .inr (.sc _ _ (h3 _ h))
   ·exact .inl rfl
  ·cases e
 ·simp only [Option.some.injEq] at e
  subst e
  exact ⟨g,.refl hR⟩
 ·cases e
/-! ### What a call hands back -/
noncomputable def Gh.above (g:Gh) (h:List Obj) (w:World) (b:Nat):Gh:=g.kill h w (fun r=>b<=r) (fun r=>g.A r/\r<b)
theorem b4r (hR:RelH S G g h w) (b:Nat):∀ n,(∀ c c' v,frz b h n c=some c'->RO S g w c v->RC S (g.above h w b) c' v) ∧
 (∀ cs cs',frzL b h n cs=some cs'->cs'.length=cs.length/\∀ (j:Nat) c c' v,cs[j]?=some c->cs'[j]?=some c'->RO S g w c v->RC S (g.above h w b) c' v)
 | 0=>⟨fun c c' v e=>by simp [frz] at e,fun cs cs' e=>by simp [frzL] at e⟩
 | n+1=>by
  obtain ⟨ih1,ih2⟩:=b4r hR b n
  have pure:∀ {c v},c.pure=true->RC S g c v->RC S (g.above h w b) c v:=fun hp hr=>hr.a3I hp (fun _ _ _ e=>a3O hR e) (fun _ _ e=>a3A hR e)
  refine ⟨fun c c' v e hro=>?_,fun cs cs' e=>?_⟩
  ·cases hro with
   | own es l blk off cap ho =>
    simp only [frz,Option.some.injEq] at e
    subst e
    exact pure rfl (ho.rel rfl)
   | rc _ _ hrc =>
    cases hrc with
    | int k m=>simp only [frz,Option.some.injEq] at e;subst e;exact .int k m
    | bool x=>simp only [frz,Option.some.injEq] at e;subst e;exact .bool x
    | str x=>simp only [frz,Option.some.injEq] at e;subst e;exact .str x
    | nilf=>simp only [frz,Option.some.injEq] at e;subst e;exact .nilf
    | nilp=>simp only [frz,Option.some.injEq] at e;subst e;exact .nilp
    | nili=>simp only [frz,Option.some.injEq] at e;subst e;exact .nili
    | slNil es=>simp only [frz,Option.some.injEq] at e;subst e;exact .slNil es
    | sl k es l blk off cap vals hk hf hc hl hp hM hr =>
     simp only [frz,Option.some.injEq] at e
     subst e
     exact pure rfl (.sl k es l blk off cap vals hk hf hc hl hp hM hr)
    | imapNil ka va=>simp only [frz,Option.some.injEq] at e;subst e;exact .imapNil ka va
    | iset n f r es hN hb hE=>simp only [frz,Option.some.injEq] at e;subst e;exact pure rfl (.iset n f r es hN hb hE)
    | imap ka va l r es kv vv hN hs hE hL hK hV =>
     simp only [frz,Option.some.injEq] at e
     subst e
     exact pure rfl (.imap ka va l r es kv vv hN hs hE hL hK hV)
    | eptr cs off blk o vals hp hM hr =>
     simp only [frz,Option.some.injEq] at e
     subst e
     exact pure rfl (.eptr cs off blk o vals hp hM hr)
    | fn id sh first cap fs fvs cvs hlen hu hr hcl hc =>
     simp only [frz] at e
     split at e
     ·rename_i x y hx hy
      simp only [Option.some.injEq] at e
      subst e
      obtain ⟨l1,r1⟩:=ih2 _ _ hx
      obtain ⟨l2,r2⟩:=ih2 _ _ hy
      refine .fn id sh x y fs fvs cvs (by omega) hu (fun j c' v hj hv=>?_) (by omega) (fun j c' v hj hv=>?_)
      ·have hlt:j<first.length:=by rw [← l1];exact (List.getElem?_eq_some_iff.1 hj).1
       exact r1 j _ c' v (List.getElem?_eq_getElem hlt) hj (.rc _ _ (hr j _ v (List.getElem?_eq_getElem hlt) hv))
      ·have hlt:j<cap.length:=by rw [← l2];exact (List.getElem?_eq_some_iff.1 hj).1
       exact r2 j _ c' v (List.getElem?_eq_getElem hlt) hj (.rc _ _ (hc j _ v (List.getElem?_eq_getElem hlt) hv))
     ·cases e
    | yield l hA =>
     simp only [frz] at e
     split at e
     ·rename_i hlt
      simp only [Option.some.injEq] at e
      subst e
      exact RC.yield (g:=g.above h w b) l ⟨hA,hlt⟩
     ·cases e
    | stamp r i hA=>simp [frz] at e
    | ptr r off hA =>
     simp only [frz] at e
     split at e
     ·rename_i hlt
      simp only [Option.some.injEq] at e
      subst e
      exact RC.ptr (g:=g.above h w b) r off ⟨hA,hlt⟩
     ·rename_i hge
      split at e
      ·rename_i cs hcs
       split at e
       ·rename_i cs2 hf
        split at e
        ·rename_i hp
         simp only [Option.some.injEq] at e
         subst e
         obtain ⟨l1,r1⟩:=ih2 _ _ hf
         exact b4f (D:=fun r=>b<=r) hR hcs (by omega) l1 hp r1 off
        ·cases e
       ·cases e
      ·cases e
    | map r hA =>
     simp only [frz] at e
     split at e
     ·rename_i hlt
      simp only [Option.some.injEq] at e
      subst e
      exact RC.map (g:=g.above h w b) r ⟨hA,hlt⟩
     ·rename_i hge
      split at e
      ·rename_i ka va l hm
       simp only [Option.some.injEq] at e
       subst e
       exact b4d (D:=fun r=>b<=r) hR hm (by omega)
      ·rename_i n0 f0 hm
       simp only [Option.some.injEq] at e
       subst e
       exact b0Y (D:=fun r=>b<=r) hR hm (by omega)
      ·cases e
    | msl r off len cap es cap' hA hle hcc =>
     simp only [frz] at e
     split at e
     ·rename_i hlt
      simp only [Option.some.injEq] at e
      subst e
      exact RC.msl (g:=g.above h w b) r off len cap es cap' ⟨hA,hlt⟩ hle hcc
     ·rename_i hge
      split at e
      ·rename_i cs hcs
       split at e
       ·rename_i cs2 hf
        split at e
        ·rename_i hp
         simp only [Option.map_eq_some_iff] at e
         obtain ⟨l,hl,rfl⟩:=e
         obtain ⟨l1,r1⟩:=ih2 _ _ hf
         obtain ⟨vals,elem,hb,hs,hro⟩:=hR.ob r _ hcs
         exact b4e (D:=fun r=>b<=r) hR hcs (by show b<=r;omega) hb l1 hp (fun j c v hc hv=>by
          have hlt:j<cs.length:=by rw [← l1];exact (List.getElem?_eq_some_iff.1 hc).1
          exact r1 j _ c v (List.getElem?_eq_getElem hlt) hc (hro j _ v (List.getElem?_eq_getElem hlt) hv)) hl hle hcc
        ·cases e
       ·cases e
      ·cases e
  ·cases cs with
   | nil =>
    simp only [frzL,Option.some.injEq] at e
    subst e
    exact ⟨rfl,fun j c c' v h=>by simp at h⟩
   | cons c cs =>
    simp only [frzL] at e
    split at e
    ·rename_i x y hx hy
     simp only [Option.some.injEq] at e
     subst e
     obtain ⟨l1,r1⟩:=ih2 _ _ hy
     refine ⟨by simp [l1],fun j c1 c2 v h1 h2 hr=>?_⟩
     rcases j with _|j
     ·simp at h1 h2
      subst h1;subst h2
      exact ih1 _ _ v hx hr
     ·exact r1 j c1 c2 v (by simpa using h1) (by simpa using h2) hr
    ·cases e
theorem c0P (hR:RelH S G g h w) {b:Nat} {v v':V} {x:Value} (e:frzV b h v=some v') (hv:RV S g v x):RV S (g.above h w b) v' x:=by
 cases hv with
 | top =>
  simp [frzV,frz] at e
  subst e
  exact .top _
 | sc c _ hc =>
  simp only [frzV,Option.map_eq_some_iff] at e
  obtain ⟨c',h1,rfl⟩:=e
  exact .sc _ _ ((b4r hR b 64).1 c c' _ h1 (.rc _ _ hc))
 | agg cs vals hs hr =>
  simp only [frzV,Option.map_eq_some_iff] at e
  obtain ⟨cs',h1,rfl⟩:=e
  obtain ⟨l1,r1⟩:=(b4r hR b 128).2 cs cs' h1
  refine .agg _ _ (by omega) fun j c' y h2 h3=>?_
  have hlt:j<cs.length:=by rw [← l1];exact (List.getElem?_eq_some_iff.1 h2).1
  exact r1 j _ c' y (List.getElem?_eq_getElem hlt) h2 (.rc _ _ (hr j _ y (List.getElem?_eq_getElem hlt) h3))
 | tup=>simp [frzV] at e
theorem b4q (hR:RelH S G g h w) {b:Nat}:∀ {vs vs':List V} {xs:List Value},a4X b h vs=some vs'->RVs S g vs xs->RVs S (g.above h w b) vs' xs
 | [],vs',xs,e,hx=>by
  simp only [a4X,Option.some.injEq] at e
  subst e
  exact ⟨hx.1,fun j v x h=>by simp at h⟩
 | v::vs,vs',xs,e,hx=>by
  simp only [a4X] at e
  split at e
  ·rename_i v1 vs1 h1 h2
   simp only [Option.some.injEq] at e
   subst e
   cases xs with
   | nil=>have:=hx.1;simp at this
   | cons x xs =>
    have ih:=b4q hR (xs:=xs) h2 ⟨by simpa using hx.1,fun j v x a b=>hx.2 (j+1) v x (by simpa using a) (by simpa using b)⟩
    refine ⟨by simp [ih.1],fun j v' x' k1 k2=>?_⟩
    rcases j with _|j
    ·simp at k1 k2
     subst k1;subst k2
     exact c0P hR h1 (hx.2 0 v x rfl rfl)
    ·exact ih.2 j v' x' (by simpa using k1) (by simpa using k2)
  ·cases e
/-! ### A callee's slots; marks -/
theorem a6h.of (h0:∀ i b,¬ a0S s.t a.tmps i b) (hG:Goes S G nt g g' s s' a a' w w'):a6h S G g g' s.h s'.h w w':=by
 have hp:∀ b,Perm g s a w b->a9f g s.h w b:=fun b hp=>hp.resolve_right fun ⟨i,hc⟩=>h0 i b hc
 exact ⟨hG.le,hG.rel.hp.rel,hG.keeps.mono fun b _ h=>.inl (hp b h),fun b hb h=>.inl (hp b (hG.back b hb (.inl (a4p h)))),
  fun b o v e=>(hG.im b o v e).imp id (Or.imp id fun h=>.inl (hp b h)),fun b es e=>(hG.mm b es e).imp id (Or.imp id fun h=>.inl (hp b h))⟩
theorem a6h.above (hG:a6h S G g g1 h h' w w') {b:Nat} (hun:(h'.take b).all (Obj.under b)=true) (hb:∀ r,g.A r->r<b):a6h S G g (g1.above h' w' b) h (h'.take b) w w' :=
 Goes.kills hG (a9T hG.rel.hp b hun) (fun r hA=>⟨hG.le.as r hA,hb r hA⟩) (fun i=>.rv _ _ (.top _)) (fun i b c=>absurd c a5z)
structure Other (g:Gh) (h:List Obj) (w:World) (b:Nat):Prop where
 c:∀ cs t fr,w.heap[b]?≠some (.cells cs t fr)
 m:∀ es n,w.heap[b]?≠some (.map es n)
 o:∀ (r:Nat) o,h[r]?=some o->live o=true->g.σ r≠b
theorem RelH.poke (hR:RelH S G g h w) {b:Nat} {ob:Go.Obj} (hO:Other g h w b):RelH S G g h (w.putObj b ob):=by
 have same:∀ b',b'≠b->(w.putObj b ob).heap[b']?=w.heap[b']?:=fun b' h=>World.putObj_heap_other h
 have hc0:∀ {q es l c off cap},OwnAt S g w q es l c off cap->c≠b:=fun ho h=>by
  obtain ⟨cs,elem,hb,_⟩:=ho.blk
  rw [h] at hb
  exact hO.c _ _ _ hb
 have hcl:∀ r j c,a1e g h (w.putObj b ob) r j c->a1e g h w r j c:=by
  rintro r j c ⟨cs,es,l,vals,elem,fr,ad,n,cap,h1,h2,h3,h4,h5⟩
  rw [same _ (hO.o r _ h1 rfl)] at h3
  exact ⟨cs,es,l,vals,elem,fr,ad,n,cap,h1,h2,h3,h4,h5⟩
 refine ⟨fun r o e=>?_,hR.as,hR.lv,hR.inj,fun c k v e=>?_,fun c es e=>?_,hR.djM,hR.djN,hR.gl,fun r j r' j' c c1 c2=>hR.ex r j r' j' c (hcl _ _ _ c1) (hcl _ _ _ c2),fun r j c r' o c1 e hl=>hR.cl r j c r' o (hcl _ _ _ c1) e hl⟩
 ·refine RObj.same e (hR.ob r o e) (.refl g) (fun _=>rfl) (fun hl=>same _ (hO.o r o e hl)) fun j c hc=>⟨same c fun hcb=>?_,fun _=>rfl⟩
  obtain ⟨cs,es,l,vals,elem,fr,ad,n,cap,h1,h2,h3,h4,h5⟩:=hc
  obtain ⟨vals',elem',hb',_,hro⟩:=hR.ob r _ h1
  rw [hb'] at h3
  simp only [Option.some.injEq,Obj.cells.injEq] at h3
  obtain ⟨rfl,rfl,_⟩:=h3
  have:=hro j _ _ h2 h4
  cases this with
  | rc _ _ h=>exact absurd rfl (h.a2a _ es l)
  | own es l c' off cap ho =>
   have h5':c'=c:=h5
   exact hc0 ho (h5'.trans hcb)
 ·have h0:=hR.im c k v e
  have hcb:c≠b:=by
   rintro rfl
   simp only [World.cell?] at h0
   split at h0
   ·rename_i hb;exact hO.c _ _ _ hb
   ·cases h0
  simp only [World.cell?] at h0 ⊢
  rw [same c hcb];exact h0
 ·obtain ⟨n,hn,h0⟩:=hR.mm c es e
  have hcb:c≠b:=by rintro rfl;exact hO.m _ _ hn
  exact ⟨n,by rw [same c hcb];exact hn,h0⟩
theorem Goes.poke (hG:Goes S G nt g g' s s' a a' w w') {b:Nat} {ob:Go.Obj} (hb:w.heap.size<=b) (hO:Other g' s'.h w' b):Goes S G nt g g' s s' a a' w (w'.putObj b ob):=by
 have same:∀ b',b'≠b->(w'.putObj b ob).heap[b']?=w'.heap[b']?:=fun b' h=>World.putObj_heap_other h
 have hcl:∀ r j c,a1e g' s'.h (w'.putObj b ob) r j c->a1e g' s'.h w' r j c:=by
  rintro r j c ⟨cs,es,l,vals,elem,fr,ad,n,cap,h1,h2,h3,h4,h5⟩
  rw [same _ (hO.o r _ h1 rfl)] at h3
  exact ⟨cs,es,l,vals,elem,fr,ad,n,cap,h1,h2,h3,h4,h5⟩
 have hR:=hG.rel
 refine ⟨hG.le,⟨hR.hp.poke hO,hR.sz,fun i=>?_,hR.exT,fun i c r j d e=>hR.exTH i c r j d (hcl _ _ _ e),hR.clT⟩,⟨by simpa using hG.keeps.size,fun c hc hn=>?_,hG.keeps.out,hG.keeps.os,hG.keeps.tape⟩,fun c hc hp=>hG.back c hc ?_,hG.im,hG.mm⟩
 ·have ht:=hR.tm i
  generalize get s'.t i=v at ht
  generalize a'.tmps.getD i undef=x at ht
  cases ht with
  | rv _ _ h=>exact .rv _ _ h
  | none es=>exact .none es
  | own q es l c off cap ho =>
   refine .own _ _ _ _ _ _ (ho.mono (.refl g') (same c fun h=>?_) (fun _=>rfl))
   obtain ⟨cs,elem,hb,_⟩:=ho.blk
   rw [h] at hb
   exact hO.c _ _ _ hb
 ·rw [same c (by omega)];exact hG.keeps.same c hc hn
 ·rcases hp with (h|⟨r,j,h⟩)|h
  ·exact .inl (.inl h)
  ·exact .inl (.inr ⟨r,j,hcl _ _ _ h⟩)
  ·exact .inr h
def Dfs (n:Nat) (a:Act) (w:World):Prop:=∃ bs:List Nat,a.defers=bs.map (fun b=>({ target:=.collected b,args:=#[] }:Deferred))/\bs.Nodup/\∀ b∈bs,n<=b/\w.heap[b]?=some (.deferred (some []))
theorem a5o (hR:Rel S G g nt s a w) {b:Nat} {x:Option (List Deferred)} (hb:w.heap[b]?=some (.deferred x)):Other g s.h w b/\¬ Perm g s a w b:=by
 have ho:∀ (r:Nat) o,s.h[r]?=some o->live o=true->g.σ r≠b:=by
  rintro r o e hl rfl
  have:=hR.hp.ob r o e
  cases o with
  | dead=>simp [live] at hl
  | free=>simp [live] at hl
  | var cs=>obtain ⟨vals,elem,h,_⟩:=this;rw [hb] at h;cases h
  | map ka va l ph=>obtain ⟨es,h,_⟩:=this;rw [hb] at h;cases h
  | set n f=>obtain ⟨es,h,_⟩:=this;rw [hb] at h;cases h
  | iter n f=>obtain ⟨es,r',h,_⟩:=this;rw [hb] at h;cases h
  | loop st pend t ps x y=>obtain ⟨L,n,h,_⟩:=this;rw [hb] at h;cases h
 refine ⟨⟨fun cs t fr h=>(by rw [hb] at h;cases h),fun es n h=>(by rw [hb] at h;cases h),ho⟩,?_⟩
 rintro ((⟨r,o,h1,h2,h3⟩|⟨r,j,cs,es,l,vals,elem,fr,ad,n,cap,h1,h2,h3,h4,h5⟩)|⟨i,p,es,l,ad,n,cap,h1,h2,h3⟩)
 ·exact ho r o h1 h2 h3
 ·obtain ⟨c',off,cap',rfl',own,_⟩:=a9S hR.hp h1 h2 (by
   obtain ⟨vals',elem',hb',_⟩:=hR.hp.ob r _ h1
   rw [hb'] at h3
   simp only [Option.some.injEq,Obj.cells.injEq] at h3
   obtain ⟨rfl,rfl,_⟩:=h3
   exact hb') h4
  simp only [Value.slice.injEq,Option.some.injEq] at rfl'
  obtain ⟨rfl,_⟩:=rfl'
  obtain ⟨cs',elem',hx,_⟩:=own.blk
  have h5':c'=b:=h5
  rw [h5',hb] at hx;cases hx
 ·have ht:=hR.tm i
  rw [h1,h2] at ht
  cases ht with
  | rv _ _ h =>
   cases h with
   | sc _ _ h=>exact absurd rfl (h.a2a _ _ _)
  | own _ _ _ c' off cap' own =>
   obtain ⟨cs',elem',hx,_⟩:=own.blk
   have h3':c'=b:=h3
   rw [h3',hb] at hx;cases hx
theorem Dfs.goes {n:Nat} (hR:Rel S G g nt s a w) (hd:Dfs n a w) (hG:Goes S G nt g g' s s' a a' w w') (he:a'.defers=a.defers):Dfs n a' w':=by
 obtain ⟨bs,h1,h2,h3⟩:=hd
 refine ⟨bs,by rw [he,h1],h2,fun b hb=>?_⟩
 obtain ⟨hn,this⟩:=h3 b hb
 refine ⟨hn,?_⟩
 rw [hG.keeps.same b (a2A this) (a5o hR this).2]
 exact this
end
end Go.Pm
namespace Go.Pm
section
variable {S:Seat} {G:List Nat} {g g' g'' g1:Gh} {nt n0:Nat} {s s' s'' s1 s2:St} {a a' a'' a1:Act} {w w' w'' w1:World} {h h':List Obj} {base:Nat} {ex ex':Ex}
theorem b9s {ops:Array Go.Oper} {o':Go.Oper} (hg:o'.guard=none) (hdf:∀ c,o'.op≠.defer c) (ro:Option Nat) {x:Value} (hrun:(execOp a.eval o').run S.P w=.ok (.value x) w') {next:Act->World->Prop} {Q:Exit->Act->World->Prop}
 (hn:next (a.put o'.dst x) w') :
 if Region.wanted o' (yielded ops a.tmps)=true then o'.wpIn (a1W ro) 0 S.P a w next Q else (∀ f,o'.about S.P w a.eval=some f->(a1W ro).fn f)/\next (a.put o'.dst undef) w:=by
 have hw:Region.wanted o' (yielded ops a.tmps)=true:=by unfold Region.wanted;rw [hg]
 rw [if_pos hw]
 refine ⟨fun f _=>b1H ro f,?_⟩
 rw [a9w,Oper.semAt_eq ro a.eval o' hdf,hrun]
 exact hn
theorem noPk {A:List Al} {gd:Option (Nat × Bool)} {o:Op} {o':Go.Op} (h:∀ p f as,o≠.call p f as):∀ i j,e8v o o' i j->i=j\/(gd,i,j)∈A\/(none,i,j)∈A:=by
 rintro i j ⟨p,f,as,_,_,_,_,e,_⟩
 exact absurd e (h p f as)
theorem Goes.c5t (hG:Goes S G nt g g' s s' a a' w w') {b:Nat} {ob:Go.Obj} (hb:Perm g s a w b) (hO:Other g' s'.h w' b):Goes S G nt g g' s s' a a' w (w'.putObj b ob):=by
 have same:∀ b',b'≠b->(w'.putObj b ob).heap[b']?=w'.heap[b']?:=fun b' h=>World.putObj_heap_other h
 have hcl:∀ r j c,a1e g' s'.h (w'.putObj b ob) r j c->a1e g' s'.h w' r j c:=by
  rintro r j c ⟨cs,es,l,vals,elem,fr,ad,n,cap,h1,h2,h3,h4,h5⟩
  rw [same _ (hO.o r _ h1 rfl)] at h3
  exact ⟨cs,es,l,vals,elem,fr,ad,n,cap,h1,h2,h3,h4,h5⟩
 have hR:=hG.rel
 refine ⟨hG.le,⟨hR.hp.poke hO,hR.sz,fun i=>?_,hR.exT,fun i c r j d e=>hR.exTH i c r j d (hcl _ _ _ e),hR.clT⟩,⟨by simpa using hG.keeps.size,fun c hc hn=>?_,hG.keeps.out,hG.keeps.os,hG.keeps.tape⟩,fun c hc hp=>hG.back c hc ?_,hG.im,hG.mm⟩
 ·have ht:=hR.tm i
  generalize get s'.t i=v at ht
  generalize a'.tmps.getD i undef=x at ht
  cases ht with
  | rv _ _ h=>exact .rv _ _ h
  | none es=>exact .none es
  | own q es l c off cap ho =>
   refine .own _ _ _ _ _ _ (ho.mono (.refl g') (same c fun h=>?_) (fun _=>rfl))
   obtain ⟨cs,elem,hb,_⟩:=ho.blk
   rw [h] at hb
   exact hO.c _ _ _ hb
 ·rw [same c (fun h=>hn (h ▸ hb))];exact hG.keeps.same c hc hn
 ·rcases hp with (h|⟨r,j,h⟩)|h
  ·exact .inl (.inl h)
  ·exact .inl (.inr ⟨r,j,hcl _ _ _ h⟩)
  ·exact .inr h
theorem b2q:∀ (vs pre z:List C),z.length=vs.length->a1H (pre++z) pre.length vs=pre++vs
 | [],pre,z,h=>by
  have:z=[]:=List.length_eq_zero_iff.1 h
  subst this;rfl
 | v::vs,pre,[],h=>by simp at h
 | v::vs,pre,x::z,h=>by
  have hs:(pre++x::z).set pre.length v=(pre++[v])++z:=by
   rw [List.set_append_right _ _ (Nat.le_refl _)];simp
  have ih:=b2q vs (pre++[v]) z (by simpa using h)
  simp only [List.length_append,List.length_cons,List.length_nil,Nat.zero_add] at ih
  simp only [a1H,hs,ih]
  simp
theorem a9u:∀ (cs pre:List C),a0R (pre++cs) pre.length cs.length=some cs
 | [],pre=>rfl
 | c::cs,pre=>by
  have ih:=a9u cs (pre++[c])
  simp only [List.length_append,List.length_cons,List.length_nil,Nat.zero_add,List.append_assoc,List.singleton_append] at ih
  simp only [List.length_cons,a0R,List.getElem?_append_right (Nat.le_refl _),Nat.sub_self,List.getElem?_cons_zero,ih,Option.map_some]
theorem b7e (ks:List Int):(keyC ks).map a0r=keyC ks:=by simp [keyC,a0r]
theorem b0L:∀ ks:List Int,intsOf (keyC ks)=some ks
 | []=>rfl
 | k::ks=>by
  have:=b0L ks
  simp only [keyC] at this
  simp only [keyC,List.map_cons,intsOf,this,Option.map_some]
theorem c1l {Γ:Env} {K:a1n} {t:List (Nat × V)} {H:List Obj} {bx ks n:Nat} {z:List C} {kl:List Int} (hne:bx≠ks) (hz:z.length=n) (hp:C.a0v z=true) (hn:0<n) (hk:kl.length=n) (hget:get t ks=.agg (keyC kl)) :
 steps Γ K H.length [{ dst:=some bx,op:=.alloc 0 z },{ op:=.store n (.t bx) (.t ks) }] ⟨t,H++[.free]⟩=some ⟨(bx,.sc (.ptr H.length 0))::t,H++[.var (keyC kl)]⟩:=by
 have hf:a1z (H++[Obj.free]) H.length=true:=by simp [a1z]
 have hkl:(keyC kl).length=n:=by simp [keyC,hk]
 have hset:=b2q (keyC kl) [] z (by rw [hkl,hz])
 simp only [List.nil_append,List.length_nil] at hset
 simp only [steps,step,wanted,perform,eff,Nat.add_zero,hf,hp,and_self,if_true,Option.map_some,put1,drop,Op.takes,List.foldl_nil,a0I,List.foldl_cons,rd,get,if_neg hne,hget,V.a0r,a0r]
 simp [V.cells,hkl,hz,hn,hset,Rand.takes]
theorem c1m {Γ:Env} {K:a1n} {t:List (Nat × V)} {H:List Obj} {q bx u kv dst n:Nat} {kl:List Int} {f:List Int->Bool} (h1:u≠bx) (h2:kv≠u) (hk:kl.length=n) (hd:get t dst=.sc (.map q)) (hb:get t bx=.sc (.ptr H.length 0)) (hq:H[q]?=some (.set n f)) :
 steps Γ K H.length [{ dst:=some u,op:=.mv (.t dst) },{ dst:=some kv,op:=.load (some n) (.t bx) },{ op:=.sadd n (.t u) (.t kv) }] ⟨t,H++[.var (keyC kl)]⟩=some ⟨(kv,.agg (keyC kl))::(u,.sc (.map q))::t,(H.set q (.set n fun x=>f x||decide (x=kl)))++[.var (keyC kl)]⟩:=by
 have hql:q<H.length:=(List.getElem?_eq_some_iff.1 hq).1
 have hkl:(keyC kl).length=n:=by simp [keyC,hk]
 have hw:=a9u (keyC kl) []
 simp only [List.nil_append,List.length_nil,hkl] at hw
 have hg1:(H++[Obj.var (keyC kl)])[H.length]?=some (.var (keyC kl)):=by simp
 have hg2:(H++[Obj.var (keyC kl)])[q]?=some (.set n f):=by rw [List.getElem?_append_left hql,hq]
 have hi:=b0L kl
 simp only [steps,step,wanted,perform,eff,rd,hd,hb,get,if_neg h1,V.a0r,a0r,Option.map_some,put1,drop,Op.takes,Rand.takes,List.foldl_nil,a0I,List.foldl_cons,hg1,a1t,hw,b7e,if_true,if_neg h2]
 simp [a6a,hkl,hi,hg2,List.set_append_left _ _ hql]
theorem b1S (hR:Rel S G g nt s a w) {b r:Nat} {since last:Nat} {seen:Array Nat} (hb:w.heap[b]?=some (.mapIter (some r) since seen last)) (ho:∀ (r:Nat) o,s.h[r]?=some o->live o=true->g.σ r≠b):Other g s.h w b/\¬ Perm g s a w b:=by
 refine ⟨⟨fun cs t fr h=>(by rw [hb] at h;cases h),fun es n h=>(by rw [hb] at h;cases h),ho⟩,?_⟩
 rintro ((⟨r,o,h1,h2,h3⟩|⟨r,j,cs,es,l,vals,elem,fr,ad,n,cap,h1,h2,h3,h4,h5⟩)|⟨i,p,es,l,ad,n,cap,h1,h2,h3⟩)
 ·exact ho r o h1 h2 h3
 ·obtain ⟨c',off,cap',rfl',own,_⟩:=a9S hR.hp h1 h2 (by
   obtain ⟨vals',elem',hb',_⟩:=hR.hp.ob r _ h1
   rw [hb'] at h3
   simp only [Option.some.injEq,Obj.cells.injEq] at h3
   obtain ⟨rfl,rfl,_⟩:=h3
   exact hb') h4
  simp only [Value.slice.injEq,Option.some.injEq] at rfl'
  obtain ⟨rfl,_⟩:=rfl'
  obtain ⟨cs',elem',hx,_⟩:=own.blk
  have h5':c'=b:=h5
  rw [h5',hb] at hx;cases hx
 ·have ht:=hR.tm i
  rw [h1,h2] at ht
  cases ht with
  | rv _ _ h =>
   cases h with
   | sc _ _ h=>exact absurd rfl (h.a2a _ _ _)
  | own _ _ _ c' off cap' own =>
   obtain ⟨cs',elem',hx,_⟩:=own.blk
   have h3':c'=b:=h3
   rw [h3',hb] at hx;cases hx
theorem c0X (kl:List Int):RV S g (.agg (keyC kl)) (a4O kl):=by
 refine .agg _ _ (by simp [keyC]) fun j c v hc hv=>?_
 simp only [keyC,List.getElem?_map,Option.map_eq_some_iff,List.getElem?_toArray] at hc hv
 obtain ⟨n,hn,rfl⟩:=hc
 obtain ⟨n',hn',rfl⟩:=hv
 rw [hn] at hn'
 cases hn'
 exact .int _ _
structure UI (S:Seat) (G:List Nat) (nt:Nat) (g:Gh) (s:St) (a:Act) (w:World) (p q n r:Nat) (K:List Nat) (es:Array MapEntry) (f0:List Int->Bool) (seen:Array Nat) (last:Nat) (fi:List Int->Bool) (g':Gh) (a':Act) (w':World):Prop where
 go:Goes S G nt g g' s ⟨restrict K s.t,(s.h.set p .dead).set q (.set n fi)⟩ a a' w w'
 df:a'.defers=a.defers
 hb:w'.heap[g.σ p]?=some (.mapIter (some r) es.size seen last)
 hl:es.size<=last
 fs:∀ ks,fi ks=true<->(f0 ks=true\/∃ e∈es.toList,seen.contains e.born=true/\e.key=a4O ks)
theorem a6c {ops:Array Go.Oper} {i:Nat} {rest:List Nat} {o':Go.Oper} (ho:ops[i]?=some o') (hg:o'.guard=none) (hdf:∀ c,o'.op≠.defer c) (ro:Option Nat) {x:Value} (hrun:(execOp a.eval o').run S.P w=.ok (.value x) w') {Q:Exit->Act->World->Prop}
 (hn:wpOpsIn (a1W ro) 0 S.P ops Q rest (a.put o'.dst x) w'):wpOpsIn (a1W ro) 0 S.P ops Q (i::rest) a w:=by
 rw [wpOpsIn]
 simp only [ho]
 exact b9s hg hdf ro hrun hn
theorem a7P {d i:Nat} {x:Value} (hd:d<a.tmps.size):(a.put (some d) x).eval (.tmp i)=if d=i then x else a.eval (.tmp i):=by
 have:=a6Q a (some d) x i (fun e h=>by cases h;exact hd)
 simpa [Act.eval] using this
theorem b0S {it dst n:Nat} {keep:List Nat} {o nx r3 r4 r5 nxt m pr ks bx u kv:Nat} {z:List C} {o0 o1 a0 a1 a2 a3 b0 b1 b2:Go.Oper} (hM:UnionM S G nt it dst n keep nxt m pr ks bx u kv z o0 o1 a0 a1 a2 a3 b0 b1 b2)
 (hR:Rel S G g nt s a w) {p q r:Nat} {f f0:List Int->Bool} {es:Array MapEntry} (hit:get s.t it=.sc (.ptr p 0)) (hds:get s.t dst=.sc (.map q)) (hp:s.h[p]?=some (.iter n f)) (hq:s.h[q]?=some (.set n f0))
 (hN:g.N r=some es) (hborn:∀ (i:Nat) m,es[i]?=some m->m.born=i) (hE:a7s n f es.toList)
 {seen:Array Nat} {last:Nat} {fi:List Int->Bool} (hI:UI S G nt g s a w p q n r (it::dst::keep) es f0 seen last fi g' a' w') (ro:Option Nat) {R:Act->World->Prop} {Q:Exit->Act->World->Prop}
 (hdone:∀ a'' w'' g'',Goes S G nt g g'' s { t:=restrict keep s.t,h:=(s.h.set p .dead).set q (.set n fun x=>f0 x||f x) } a a'' w w''->a''.defers=a.defers->Q (.exit o) a'' w'')
 (hnext:∀ e∈(leftOf es seen).toList,∀ last' fi' g'' a'' w'',UI S G nt g s a w p q n r (it::dst::keep) es f0 (seen.push e.born) last' fi' g'' a'' w''->R a'' w'') :
 (Code.seq (.region r3 #[o0,o1] false) (.seq (.cond (.tmp m) .skip (.exit o)) (.block nx (.seq (.region r4 #[a0,a1,a2,a3] false) (.region r5 #[b0,b1,b2] false))))).wpIn (a1W ro) 0 S.P (Exit.then R Q) a' w':=by
 obtain ⟨p0,d0,gd0⟩:=hM.h0
 obtain ⟨p1,d1,gd1⟩:=hM.h1
 obtain ⟨p2,d2,gd2⟩:=hM.h2
 obtain ⟨p3,d3,gd3⟩:=hM.h3
 obtain ⟨l0,l1,l2,l3⟩:=hM.lt
 have nd:=hM.nd
 simp only [List.nodup_cons,List.mem_cons,not_or,List.not_mem_nil,not_false_eq_true,List.nodup_nil,and_true] at nd
 obtain ⟨⟨i1,i2,i3,i4,i5,i6,i7,i8⟩,⟨j1,j2,j3,j4,j5,j6,j7⟩,⟨n1,n2,n3,n4,n5,n6⟩,⟨m1,m2,m3,m4,m5⟩,⟨q1,q2,q3,q4⟩,⟨k1,k2,k3⟩,⟨x1,x2⟩,y1⟩:=nd
 have hpq:p≠q:=by rintro rfl;rw [hp] at hq;cases hq
 have hA:=hR.hp.lv p _ hp rfl
 have hAq:=hR.hp.lv q _ hq rfl
 have hσ:g.σ q≠g.σ p:=fun e=>hpq (hR.hp.inj q p _ _ hq hp rfl rfl e).symm
 have hsz:=hI.go.rel.sz
 have hplt:p<s.h.length:=(List.getElem?_eq_some_iff.1 hp).1
 have hqlt:q<s.h.length:=(List.getElem?_eq_some_iff.1 hq).1
 have hitv:a'.eval (.tmp it)=.pointer (some ⟨g.σ p,0,none⟩):=by
  have h1:=a0M hI.go.rel (MR.t it:MR S G (.t it) (.tmp it))
  have h2:rd S.Γ (restrict (it::dst::keep) s.t) (.t it)=.sc (.ptr p 0):=by simp [rd,a2s,hit,V.a0r,a0r]
  rw [h2] at h1
  obtain ⟨_,hx⟩:=h1.a3J
  rw [hx,hI.go.le.eq p hA]
 have hmap:w'.heap[r]?=some (.map es es.size):=by
  obtain ⟨k,hk,rfl⟩:=hI.go.rel.hp.mm r es (hI.go.le.mm _ _ hN)
  exact hk
 have hold:∀ x∈es.toList,x.born<es.size:=fun x hx=>by
  obtain ⟨i,hi⟩:=List.getElem?_of_mem hx
  rw [Array.getElem?_toList] at hi
  rw [hborn i x hi];exact (Array.getElem?_eq_some_iff.1 hi).1
 have hnd:(es.toList.map (·.born)).Nodup:=by
  have:es.toList.map (·.born)=List.range es.size:=by
   apply List.ext_getElem?
   intro i
   rw [List.getElem?_map,Array.getElem?_toList]
   by_cases hi:i<es.size
   ·rw [Array.getElem?_eq_getElem hi,Option.map_some,hborn i _ (Array.getElem?_eq_getElem hi),List.getElem?_range hi]
   ·rw [Array.getElem?_eq_none (by omega),List.getElem?_eq_none (by simp;omega)];rfl
  rw [this];exact List.nodup_range
 refine wpIn_seq (wpIn_region ?_)
 show wpOpsIn _ 0 S.P #[o0,o1] _ [0,1] a' w'
 rcases run_next_at (P:=S.P) w' o0.type (g.σ p) r es.size last seen es es.size hI.hb hmap hold hI.hl with ⟨h0,hrun⟩|⟨e,he,w1,hal,hrun⟩
 ·refine a6c (x:=.tuple #[.bool false]) (w':=w') rfl gd0 (by rw [p0];simp) ro (by simp [execOp,p0,hitv,hrun]) ?_
  rw [d0]
  have ev1:(a'.put (some nxt) (.tuple #[.bool false])).eval (.tmp nxt)=.tuple #[.bool false]:=by rw [a7P (by omega)];simp
  refine a6c (x:=.bool false) (w':=w') rfl gd1 (by rw [p1];simp) ro (by simp [execOp,p1,ev1,Instr.extract]) ?_
  rw [d1]
  have g1:=hI.go.trans (Goes.put hI.go.rel (dst:=some nxt) (v:=.sc .top) (x:=.tuple #[.bool false]) (.top _) (fun d h=>by cases h;exact l0))
  have g2:=g1.trans (Goes.put g1.rel (dst:=some m) (v:=.sc .top) (x:=.bool false) (.top _) (fun d h=>by cases h;exact l1))
  show (Code.seq _ _).wpIn _ _ _ _ _ _
  refine wpIn_seq (wpIn_cond_false (by rw [a7P (by rw [size_put];omega)];simp) (wpIn_exit ?_))
  show Q (.exit o) _ _
  have g3:=g2.trans (Goes.restrict g2.rel keep)
  refine hdone _ _ g' ?_ (by rw [a3Y,a3Y];exact hI.df)
  have ht:restrict keep (put1 (some m) (.sc .top) (put1 (some nxt) (.sc .top) (restrict (it::dst::keep) s.t)))=restrict keep s.t:=by
   unfold restrict
   refine List.map_congr_left fun i hi=>?_
   have hni:=hM.kp i hi
   simp only [List.mem_cons,not_or] at hni
   have:get (put1 (some m) (V.sc .top) (put1 (some nxt) (.sc .top) (restrict (it::dst::keep) s.t))) i=get s.t i:=by
    simp only [put1,get]
    rw [if_neg (fun h=>hni.2.1 h.symm),if_neg (fun h=>hni.1 h.symm),a2s,if_pos (by simp [hi])]
   exact congrArg (Prod.mk i) this
  have hf:fi=fun x=>f0 x||f x:=by
   funext x
   rw [Bool.eq_iff_iff,hI.fs x,Bool.or_eq_true,hE.2 x]
   constructor
   ·rintro (h|⟨e,he,_,hk⟩)
    ·exact .inl h
    ·exact .inr ⟨e,he,hk⟩
   ·rintro (h|⟨e,he,hk⟩)
    ·exact .inl h
    ·exact .inr ⟨e,he,all_seen es seen h0 e he,hk⟩
  rw [ht,hf] at g3
  exact g3
 ·have hH:∀ (r':Nat) o',((s.h.set p .dead).set q (.set n fi))[r']?=some o'->live o'=true->g'.σ r'≠g.σ p:=by
   intro r' o' e' hl
   rcases a3H e' with ⟨rfl,rfl,_⟩|⟨hr1,e'⟩
   ·rw [hI.go.le.eq r' hAq];exact hσ
   ·rcases a3H e' with ⟨rfl,rfl,_⟩|⟨hr2,e'⟩
    ·simp [live] at hl
    ·rw [hI.go.le.eq r' (hR.hp.lv r' o' e' hl)];exact fun h=>hr2 (hR.hp.inj r' p _ _ e' hp hl rfl h)
  obtain ⟨H,hHd⟩:∃ H,(s.h.set p .dead).set q (.set n fi)=H:=⟨_,rfl⟩
  have hlenH:H.length=s.h.length:=by rw [← hHd];simp
  have hHq:H[q]?=some (.set n fi):=by rw [← hHd,List.getElem?_set_self (by simpa using hqlt)]
  have hgo:=hI.go
  rw [hHd] at hgo hH
  have G1:Goes S G nt g g' s ⟨restrict (it::dst::keep) s.t,H⟩ a a' w w1:=by
   rcases hal with rfl|rfl
   ·exact hgo
   ·exact hgo.trans (Goes.grow hgo.rel (Grows.drew g' w'))
  have hb1:w1.heap[g.σ p]?=some (.mapIter (some r) es.size seen last):=by rcases hal with rfl|rfl<;>exact hI.hb
  have hperm:Perm g s a w (g.σ p):=.inl (.inl ⟨p,_,hp,rfl,rfl⟩)
  have hO1:=(b1S G1.rel hb1 hH).1
  obtain ⟨w2,hw2⟩:∃ w2,w1.putObj (g.σ p) (.mapIter (some r) es.size (seen.push e.born) es.size)=w2:=⟨_,rfl⟩
  have hrun2:(Instr.next (.pointer (some ⟨g.σ p,0,none⟩)) false o0.type).run S.P w'=.ok (.tuple #[.bool true,e.key,e.val]) w2:=by rw [← hw2];exact hrun
  have G2:Goes S G nt g g' s ⟨restrict (it::dst::keep) s.t,H⟩ a a' w w2:=by rw [← hw2];exact G1.c5t hperm hO1
  have hb2:w2.heap[g.σ p]?=some (.mapIter (some r) es.size (seen.push e.born) es.size):=by rw [← hw2];exact World.putObj_heap_same (a2A hb1)
  have hmap2:w2.heap[r]?=some (.map es es.size):=by
   obtain ⟨k,hk,rfl⟩:=G2.rel.hp.mm r es (G2.le.mm _ _ hN)
   exact hk
  obtain ⟨hme,hse⟩:=mem_left he
  have hent:=run_entry_at (P:=S.P) w2 (g.σ p) r es.size seen es es.size e hb2 hmap2 hme hnd
  obtain ⟨kl,hkl,hkey,hval⟩:=hE.1 e hme
  refine a6c (x:=.tuple #[.bool true,e.key,e.val]) (w':=w2) rfl gd0 (by rw [p0];simp) ro (by simp [execOp,p0,hitv,hrun2]) ?_
  rw [d0]
  have ev1:(a'.put (some nxt) (.tuple #[.bool true,e.key,e.val])).eval (.tmp nxt)=.tuple #[.bool true,e.key,e.val]:=by rw [a7P (by omega)];simp
  refine a6c (x:=.bool true) (w':=w2) rfl gd1 (by rw [p1];simp) ro (by simp [execOp,p1,ev1,Instr.extract]) ?_
  rw [d1]
  have g1:=G2.trans (Goes.put G2.rel (dst:=some nxt) (v:=.sc .top) (x:=.tuple #[.bool true,e.key,e.val]) (.top _) (fun d h=>by cases h;exact l0))
  have g2:=g1.trans (Goes.put g1.rel (dst:=some m) (v:=.sc .top) (x:=.bool true) (.top _) (fun d h=>by cases h;exact l1))
  obtain ⟨A2,hA2⟩:∃ A2,(a'.put (some nxt) (.tuple #[.bool true,e.key,e.val])).put (some m) (.bool true)=A2:=⟨_,rfl⟩
  have hit2:A2.eval (.tmp it)=.pointer (some ⟨g.σ p,0,none⟩):=by rw [← hA2,a7P (by rw [size_put];omega),if_neg (fun h=>i3 h.symm),a7P (by omega),if_neg (fun h=>i2 h.symm),hitv]
  have hm2:A2.eval (.tmp m)=.bool true:=by rw [← hA2,a7P (by rw [size_put];omega)];simp
  have hdf2:A2.defers=a'.defers:=by rw [← hA2,a3Y,a3Y]
  rw [hA2] at g2 ⊢
  have hs2:A2.tmps.size=nt:=g2.rel.sz
  show (Code.seq _ _).wpIn _ _ _ _ _ _
  refine wpIn_seq (wpIn_cond_true hm2 (wpIn_skip ?_))
  show (Code.block _ _).wpIn _ _ _ _ _ _
  refine wpIn_block (wpIn_seq (wpIn_region ?_))
  show wpOpsIn _ 0 S.P #[a0,a1,a2,a3] _ [0,1,2,3] A2 w2
  refine a6c (x:=.tuple #[e.key,e.val]) (w':=w2) rfl gd2 (by rw [p2];simp) ro (by simp [execOp,p2,hit2,hent]) ?_
  rw [d2]
  have ev3:(A2.put (some pr) (.tuple #[e.key,e.val])).eval (.tmp pr)=.tuple #[e.key,e.val]:=by rw [a7P (by omega)];simp
  refine a6c (x:=e.key) (w':=w2) rfl gd3 (by rw [p3];simp) ro (by simp [execOp,p3,ev3,Instr.extract]) ?_
  rw [d3]
  have g3:=g2.trans (Goes.put g2.rel (dst:=some pr) (v:=.sc .top) (x:=.tuple #[e.key,e.val]) (.top _) (fun d h=>by cases h;exact l2))
  have g4:=g3.trans (Goes.put g3.rel (dst:=some ks) (v:=.agg (keyC kl)) (x:=e.key) (by rw [hkey];exact c0X kl) (fun d h=>by cases h;exact l3))
  obtain ⟨A4,hA4⟩:∃ A4,(A2.put (some pr) (.tuple #[e.key,e.val])).put (some ks) e.key=A4:=⟨_,rfl⟩
  have hdf4:A4.defers=a'.defers:=by rw [← hA4,a3Y,a3Y,hdf2]
  rw [hA4] at g4 ⊢
  obtain ⟨T4,hT4⟩:∃ T4,put1 (some ks) (V.agg (keyC kl)) (put1 (some pr) (.sc .top) (put1 (some m) (.sc .top) (put1 (some nxt) (.sc .top) (restrict (it::dst::keep) s.t))))=T4:=⟨_,rfl⟩
  have hT4k:get T4 ks=.agg (keyC kl):=by rw [← hT4];simp [put1,get]
  have hT4i:∀ i,i∈it::dst::keep->get T4 i=get s.t i:=fun i hi=>by
   have hn:i ∉ [nxt,m,pr,ks,bx,u,kv]:=by
    rcases List.mem_cons.1 hi with rfl|hi
    ·simp;exact ⟨i2,i3,i4,i5,i6,i7,i8⟩
    ·rcases List.mem_cons.1 hi with rfl|hi
     ·simp;exact ⟨j1,j2,j3,j4,j5,j6,j7⟩
     ·exact hM.kp i hi
   simp only [List.mem_cons,not_or] at hn
   rw [← hT4]
   simp only [put1,get]
   rw [if_neg (fun h=>hn.2.2.2.1 h.symm),if_neg (fun h=>hn.2.2.1 h.symm),if_neg (fun h=>hn.2.1 h.symm),if_neg (fun h=>hn.1 h.symm),a2s,if_pos hi]
  have g4':Goes S G nt g g' s ⟨T4,H⟩ a A4 w w2:=by rw [← hT4];exact g4
  have hroom:Goes S G nt g' g' ⟨T4,H⟩ ⟨T4,H++[.free]⟩ A4 A4 w2 w2:=Goes.room g4'.rel 1
  show wpOpsIn _ 0 S.P #[a0,a1,a2,a3] _ (List.range' 2 [a2,a3].length) A4 w2
  refine a9q (K:=fun _ _ _=>none) (fun fk vs h v h' e=>by cases e) ro _ _ 2 hM.h4 (fun j=>by
   rcases j with _|_|j
   ·rfl
   ·rfl
   ·rw [List.getElem?_eq_none (by simp),Array.getElem?_eq_none (by simp;omega)]) [] ⟨noPk (by simp),noPk (by simp),trivial⟩ _ _ A4 w2 g' (c1l (n:=n) (fun h=>k1 h.symm) hM.hz hM.hp hM.hn hkl hT4k) hroom.rel (fun _ _ _ h=>by simp at h) (fun a5 w5 g5 hg5 hdf5=>?_)
  show (Code.region _ _ _).wpIn _ _ _ _ _ _
  refine wpIn_region ?_
  show wpOpsIn _ 0 S.P #[b0,b1,b2] _ (List.range' 0 [b0,b1,b2].length) a5 w5
  refine a9q (K:=fun _ _ _=>none) (fun fk vs h v h' e=>by cases e) ro _ _ 0 hM.h5 (fun j=>by simp) [] ⟨noPk (by simp),noPk (by simp),noPk (by simp),trivial⟩ _ _ a5 w5 g5 (c1m (n:=n) (u:=u) (kv:=kv) (q:=q) (dst:=dst) (f:=fi) (fun h=>x1 h.symm) (fun h=>y1 h.symm) hkl (by
   simp only [get];rw [if_neg (fun h=>j5 h.symm),hT4i dst (by simp),hds]) (by simp [get]) hHq) hg5.rel (fun _ _ _ h=>by simp at h) (fun a6 w6 g6 hg6 hdf6=>?_)
  show R a6 w6
  obtain ⟨H',hH'⟩:∃ H',H.set q (.set n fun x=>fi x||decide (x=kl))=H':=⟨_,rfl⟩
  obtain ⟨T6,hT6⟩:∃ T6,(kv,V.agg (keyC kl))::(u,V.sc (.map q))::(bx,V.sc (.ptr H.length 0))::T4=T6:=⟨_,rfl⟩
  rw [hH',hT6] at hg6
  have hlen':H'.length=H.length:=by rw [← hH'];simp
  have hsteps:=(hroom.trans hg5).trans hg6
  have Gt:=g4'.trans hsteps
  have hT6i:∀ i,i∈it::dst::keep->get T6 i=get s.t i:=fun i hi=>by
   have hn:i ∉ [nxt,m,pr,ks,bx,u,kv]:=by
    rcases List.mem_cons.1 hi with rfl|hi
    ·simp;exact ⟨i2,i3,i4,i5,i6,i7,i8⟩
    ·rcases List.mem_cons.1 hi with rfl|hi
     ·simp;exact ⟨j1,j2,j3,j4,j5,j6,j7⟩
     ·exact hM.kp i hi
   simp only [List.mem_cons,not_or] at hn
   rw [← hT6]
   simp only [get]
   rw [if_neg (fun h=>hn.2.2.2.2.2.2.1 h.symm),if_neg (fun h=>hn.2.2.2.2.2.1 h.symm),if_neg (fun h=>hn.2.2.2.2.1 h.symm),hT4i i hi]
  have happ:∀ (r':Nat) o',H'[r']?=some o'->(H'++[Obj.var (keyC kl)])[r']?=some o'/\r' < H.length:=fun r' o' e' =>
   ⟨by rw [List.getElem?_append_left (List.getElem?_eq_some_iff.1 e').1];exact e',by rw [← hlen'];exact (List.getElem?_eq_some_iff.1 e').1⟩
  have hd:Dies (H'++[Obj.var (keyC kl)]) H' (fun x=>x=H.length) (fun x=>g6.A x/\x<H.length) g6:=by
   refine ⟨fun r' o' e' hl=>⟨(happ r' o' e').1,fun h=>?_⟩,fun r' hA'=>?_,fun r' o' e' hl=>⟨Gt.rel.hp.lv r' o' (happ r' o' e').1 hl,(happ r' o' e').2⟩,fun r' h=>h.1,fun r' o' e' hl=>⟨H.length,?_,fun r2 h1 h2=>⟨h2,h1⟩⟩⟩
   ·have h':r'=H.length:=h
    have:=(happ r' o' e').2
    omega
   ·obtain ⟨o',ho',hf⟩:=Gt.rel.hp.as r' hA'.1
    have hlt:r' < H'.length:=by rw [hlen'];exact hA'.2
    have h2:(H'++[Obj.var (keyC kl)])[r']?=some o':=ho'
    rw [List.getElem?_append_left hlt] at h2
    exact ⟨o',h2,hf⟩
   ·rw [← hH'] at e'
    rcases a3H e' with ⟨rfl,rfl,_⟩|⟨hr1,e'⟩
    ·trivial
    ·exact hgo.rel.hp.und e'
  have ht:∀ i,RT S (g6.kill (H'++[Obj.var (keyC kl)]) w6 (fun x=>x=H.length) (fun x=>g6.A x/\x<H.length)) w6 (get (restrict (it::dst::keep) s.t) i) (a6.tmps.getD i undef):=fun i=>by
   rw [a2s]
   by_cases hi:i∈it::dst::keep
   ·rw [if_pos hi, ← hT6i i hi]
    refine b5W (n:=H.length) Gt.rel (fun r' h1 h2=>⟨h2,h1⟩) ?_
    show (get T6 i).under _=true
    rw [hT6i i hi]
    have h1:RT S g' w' (get (restrict (it::dst::keep) s.t) i) (a'.tmps.getD i undef):=hgo.rel.tm i
    rw [a2s,if_pos hi] at h1
    generalize get s.t i=vv at h1
    generalize a'.tmps.getD i undef=xx at h1
    cases h1 with
    | rv _ _ h=>exact h.under fun r' hA'=>A_lt hgo.rel.hp hA'
    | own=>rfl
    | none=>rfl
   ·rw [if_neg hi];exact .rv _ _ (.top _)
  have hct:∀ i b,a0S (restrict (it::dst::keep) s.t) a6.tmps i b->a0S T6 a6.tmps i b:=by
   rintro i b ⟨q,es',l,ad,n',cap,h1,h2,h3⟩
   rw [a2s] at h1
   split at h1
   ·rename_i hi
    exact ⟨q,es',l,ad,n',cap,by rw [hT6i i hi];exact h1,h2,h3⟩
   ·cases h1
  have Gk:=Goes.kills Gt hd (fun r' hA'=>⟨Gt.le.as r' hA',by rw [hlenH];exact A_lt hR.hp hA'⟩) ht hct
  have hHH:(s.h.set p .dead).set q (.set n fun x=>fi x||decide (x=kl))=H':=by rw [← hH', ← hHd,List.set_set]
  rw [← hHH] at Gk
  refine hnext e he es.size (fun x=>fi x||decide (x=kl)) _ a6 w6 ⟨Gk,?_,?_,Nat.le_refl _,?_⟩
  ·rw [hdf6,hdf5,hdf4];exact hI.df
  ·rw [hsteps.keeps.same _ (a2A hb2) (b1S g4'.rel hb2 hH).2];exact hb2
  ·intro ks'
   rw [Bool.or_eq_true,hI.fs ks',decide_eq_true_eq]
   constructor
   ·rintro ((h|⟨e',he',hs',hk'⟩)|rfl)
    ·exact .inl h
    ·exact .inr ⟨e',he',by rw [contains_push,hs',Bool.true_or],hk'⟩
    ·exact .inr ⟨e,hme,by rw [contains_push];simp,hkey⟩
   ·rintro (h|⟨e',he',hs',hk'⟩)
    ·exact .inl (.inl h)
    ·rw [contains_push,Bool.or_eq_true] at hs'
     rcases hs' with hs' | hs'
     ·exact .inl (.inr ⟨e',he',hs',hk'⟩)
     ·have:=born_inj hnd he' hme (by simpa using hs')
      subst this
      rw [hkey] at hk'
      exact .inr (b1X hk').symm
theorem b9X {it dst n:Nat} {keep:List Nat} {o nx r3 r4 r5 nxt m pr ks bx u kv:Nat} {z:List C} {o0 o1 a0 a1 a2 a3 b0 b1 b2:Go.Oper} (hM:UnionM S G nt it dst n keep nxt m pr ks bx u kv z o0 o1 a0 a1 a2 a3 b0 b1 b2)
 (hR:Rel S G g nt s a w) {X:a3Z} {K:a1n} {ex:Ex} (e:a0U S.Γ X K (.union keep it dst n) s=some (ex,s')) (ro:Option Nat) {Q:Exit->Act->World->Prop}
 (hQ:ex=.norm->∀ a' w' g',Goes S G nt g g' s s' a a' w w'->a'.defers=a.defers->Q .normal a' w') :
 (Code.block o (.loop (.seq (.region r3 #[o0,o1] false) (.seq (.cond (.tmp m) .skip (.exit o)) (.block nx (.seq (.region r4 #[a0,a1,a2,a3] false) (.region r5 #[b0,b1,b2] false))))))).wpIn (a1W ro) 0 S.P Q a w:=by
 simp only [a0U] at e
 split at e
 ·rename_i p q hit hds
  split at e
  ·rename_i n1 f n2 f0 hp hq
   split at e
   ·rename_i hn
    obtain ⟨rfl,rfl⟩:=hn
    simp only [Option.some.injEq,Prod.mk.injEq] at e
    obtain ⟨rfl,rfl⟩:=e
    obtain ⟨es,r,hb,hN,hborn,hE⟩:=hR.hp.ob p _ hp
    have hqlt:q<s.h.length:=(List.getElem?_eq_some_iff.1 hq).1
    have hpq:p≠q:=by rintro rfl;rw [hp] at hq;cases hq
    have key:∀ (k:Nat) (seen:Array Nat) (last:Nat) (fi:List Int->Bool) (g':Gh) (a':Act) (w':World),(leftOf es seen).size<=k->UI S G nt g s a w p q n2 r (it::dst::keep) es f0 seen last fi g' a' w' →
     Code.roundsIn (a1W ro) 0 S.P (.seq (.region r3 #[o0,o1] false) (.seq (.cond (.tmp m) .skip (.exit o)) (.block nx (.seq (.region r4 #[a0,a1,a2,a3] false) (.region r5 #[b0,b1,b2] false))))) (Exit.inBlock o Q) (k+1) a' w':=by
     intro k
     induction k with
     | zero =>
      intro seen last fi g' a' w' hk hI
      rw [roundsIn_succ]
      refine b0S hM hR hit hds hp hq hN hborn hE hI ro (fun a'' w'' g'' hG hd=>?_) (fun e he=>?_)
      ·show (if o=o then _ else _)
       rw [if_pos rfl];exact hQ rfl a'' w'' g'' hG hd
      ·have h0:(leftOf es seen).toList=[]:=by
        have:(leftOf es seen).size=0:=by omega
        exact List.length_eq_zero_iff.1 (by simpa using this)
       rw [h0] at he;cases he
     | succ k ih =>
      intro seen last fi g' a' w' hk hI
      rw [roundsIn_succ]
      refine b0S hM hR hit hds hp hq hN hborn hE hI ro (fun a'' w'' g'' hG hd=>?_) (fun e he last' fi' g'' a'' w'' hI'=>?_)
      ·show (if o=o then _ else _)
       rw [if_pos rfl];exact hQ rfl a'' w'' g'' hG hd
      ·have:=left_shrinks es seen e he
       exact ih _ _ _ _ _ _ (by omega) hI'
    have G1:=Goes.die hR hp
    have G2:=G1.trans (Goes.restrict G1.rel (it::dst::keep))
    have hset:(s.h.set p .dead).set q (.set n2 f0)=s.h.set p .dead:=set_self (show (s.h.set p .dead)[q]?=some (.set n2 f0) by rw [a5p (fun h=>hpq h.symm)];exact hq)
    rw [← hset] at G2
    exact wpIn_block (wpIn_loop_rounds _ (key (leftOf es #[]).size #[] es.size f0 _ a w (Nat.le_refl _) ⟨G2,rfl,hb,Nat.le_refl _,fun ks'=>by simp⟩))
   ·cases e
  ·cases e
 ·cases e
end
end Go.Pm
