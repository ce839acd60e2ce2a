/- The plain machine, part 4. -/
import Derived.Test.YtdockaglpfejhaaGreatDoorW3
import Derived.LoopNIn
import Derived.Handed
import Derived.ChangeReads
import Derived.ChangeArms
import Derived.OpenShut
import Derived.ChangeSame
import Derived.ChangeShapes
import Derived.ChangeOld
import Derived.ChangeAt
import Derived.ChangeBook
import Derived.ChangeStays
import Derived.RowKit
import Derived.LaidMore
import Derived.LaidSub
import Derived.Stop.Joined
set_option linter.all false
set_option maxRecDepth 100000
namespace Go.Pm
def b4k:Ex->Exit
 | .norm=>.normal
 | .exit id=>.exit id
 | .ret=>.ret
def Post (S:Seat) (G:List Nat) (nt n0:Nat) (g:Gh) (s s':St) (a:Act) (w:World) (ex:Ex) (e:Exit) (a':Act) (w':World):Prop :=
 e=b4k ex/\∃ g',Goes S G nt g g' s s' a a' w w'/\Dfs n0 a' w'
def SimX (S:Seat) (G:List Nat) (X:a3Z):Prop :=
 ∀ r nt c c',MC S G nt r c c'->∀ s ex s',X c s=some (ex,s')->∀ ro:Option Nat,ro.isSome=r->∀ g a w n0,Rel S G g nt s a w->Dfs n0 a w->n0<=w.heap.size →
  c'.wpIn (a1W ro) 0 S.P (Post S G nt n0 g s s' a w ex) a w
def SimL (S:Seat) (G:List Nat) (X:a3Z) (n:Nat):Prop :=
 ∀ r nt keep c x,MC S G nt r c x->∀ s ex s',X (.loop keep c) s=some (ex,s')->∀ ro:Option Nat,ro.isSome=r->∀ g a w n0,Rel S G g nt s a w->Dfs n0 a w->n0<=w.heap.size →
  ∀ Q:Exit->Act->World->Prop,(∀ e a' w',Post S G nt n0 g s s' a w ex e a' w'->Q e a' w')->Code.roundsIn (a1W ro) 0 S.P x Q n a w
section
variable {S:Seat} {G:List Nat} {g g' g'' g1:Gh} {nt n0:Nat} {s s' s'' s1 s2:St} {a a' a'' a1:Act} {w w' w'' w1:World} {h h':List Obj} {base:Nat} {ex ex':Ex}
theorem Post.trans (hG:Goes S G nt g g1 s s1 a a1 w w1) {e:Exit} (hp:Post S G nt n0 g1 s1 s' a1 w1 ex e a' w'):Post S G nt n0 g s s' a w ex e a' w':=by
 obtain ⟨h1,g',h2,h3⟩:=hp
 exact ⟨h1,g',hG.trans h2,h3⟩
theorem b4D {X:a3Z} {K:a1n} (hX:SimX S G X) {n:Nat} (hL:SimL S G X n):SimL S G (a0U S.Γ X K) (n+1):=by
 intro r nt keep c x hm s ex s' e ro hro g a w n0 hR hd hn Q hQ
 rw [roundsIn_succ]
 simp only [a0U] at e
 have fin:∀ s1 ex1,X c s=some (ex1,s1)->ex1≠.norm->ex1=ex->s1=s'->x.wpIn (a1W ro) 0 S.P (Exit.then (Code.roundsIn (a1W ro) 0 S.P x Q n) Q) a w:=by
  rintro s1 ex1 hx hne rfl rfl
  refine wpIn_mono (hX r nt c x hm s ex1 s1 hx ro hro g a w n0 hR hd hn) fun e a' w' hp=>?_
  have he:=hp.1
  cases ex1 with
  | norm=>exact absurd rfl hne
  | exit id=>rw [he] at hp ⊢;exact hQ _ _ _ hp
  | ret=>rw [he] at hp ⊢;exact hQ _ _ _ hp
 cases hx:X c s with
 | none=>rw [hx] at e;cases e
 | some q =>
  obtain ⟨ex1,s1⟩:=q
  rw [hx] at e
  cases ex1 with
  | norm =>
   simp only at e
   split at e
   ·rename_i s2 ht
    refine wpIn_mono (hX r nt c x hm s .norm s1 hx ro hro g a w n0 hR hd hn) fun e' a' w' hp=>?_
    obtain ⟨rfl,g1,hG,hd'⟩:=hp
    obtain ⟨g2,hG2⟩:=Goes.trim hR hG ht
    show Code.roundsIn _ _ _ _ _ _ _ _
    exact hL r nt keep c x hm s2 ex s' e ro hro g2 a' w' n0 hG2.rel hd' (Nat.le_trans hn hG2.keeps.size) Q fun e a'' w'' hp=>hQ e a'' w'' (Post.trans hG2 hp)
   ·cases e
  | exit id =>
   simp only [Option.some.injEq,Prod.mk.injEq] at e
   exact fin s1 _ hx (by simp) e.1 e.2
  | ret =>
   simp only [Option.some.injEq,Prod.mk.injEq] at e
   exact fin s1 _ hx (by simp) e.1 e.2
/-! ### A scope without jumps -/
theorem a4T {P:Program} {b:Frame} {k:List Item} {cs:List Frame} {c:Code}:Go.step P (lone (b.atR a (.code (.scope c)::k)) cs w)=.next (lone (b.atR a (.code c::.inScope c::k)) cs w) :=
 step_lone_go (by simp [stepG,stepG.exec,Frame.atR])
theorem b3F {P:Program} {b:Frame} {k:List Item} {cs:List Frame} {c:Code}:Go.step P (lone (b.atR a (.inScope c::k)) cs w)=.next (lone (b.atR a k) cs w) :=
 step_lone_go (by simp [stepG,stepG.exec,Frame.atR])
theorem b7f {F:Fence} {n:Nat} {P:Program} {c:Code} {Q:Exit->Act->World->Prop} (hg:∀ l a w,¬ Q (.goto l) a w) (h:c.wpIn F n P Q a w):(Code.scope c).wpIn F n P Q a w:=by
 intro b k cs hro hb hr
 have h0:(lone (b.atR a (.code (.scope c)::k)) cs w).fenced P F:=fenced_calm hb hr rfl
 obtain ⟨e,a₁,w₁,hq,harr⟩:=h b (.inScope c::k) cs hro hb hr
 cases e with
 | normal=>exact ⟨.normal,a₁,w₁,hq,.head h0 a4T (StepsIn.trans harr (.one (fenced_calm hb hr rfl) b3F))⟩
 | exit id =>
  have hx:exitTo id (.inScope c::k)=exitTo id k:=by simp [exitTo]
  exact ⟨_,a₁,w₁,hq,fun k' hk=>.head h0 a4T (harr.1 k' (by rw [hx];exact hk)),
   fun hr' hk=>let ⟨k₁,h1,h2⟩:=harr.2 hr' (by rw [hx];exact hk);⟨k₁,h1,.head h0 a4T h2⟩⟩
 | goto l=>exact (hg _ _ _ hq).elim
 | ret=>exact ⟨_,a₁,w₁,hq,.of_steps (.one h0 a4T) harr⟩
 | panic ch=>exact ⟨_,a₁,w₁,hq,.of_steps (.one h0 a4T) harr⟩
 | outgrown=>exact ⟨_,a₁,w₁,hq,.of_steps (.one h0 a4T) harr⟩
theorem b5A {l:Nat}:¬ Post S G nt n0 g s s' a w ex (.goto l) a' w':=by
 rintro ⟨h,_⟩
 cases ex<;>cases h
/-! ### A loop over a function -/
theorem b5q (t:List (Nat × V)) (i:Nat):get (a3i t) i=(get t i).a0r:=by
 unfold a3i
 induction t with
 | nil=>rfl
 | cons p t ih =>
  simp only [List.map_cons,get]
  split
  ·rfl
  ·exact ih
theorem b9C {h:List Obj} {o:Obj}:(h++List.replicate 1 Obj.free).set h.length o=h++[o]:=by
 simp
theorem c1z (hR:RelH S G g h w) {p b:Nat} (hp:h[p]?=some .free):g.Le (g.with p b):=by
 refine ⟨fun r h=>.inr h,fun r h=>?_,fun _ _ _ h=>h,fun _ _ h=>h⟩
 have hne:r≠p:=by
  rintro rfl
  obtain ⟨o,ho,hf⟩:=hR.as r h
  rw [hp] at ho
  simp only [Option.some.injEq] at ho
  subst ho
  simp [a6U] at hf
 simp [Gh.with,hne]
theorem Goes.defers (hG:Goes S G nt g g' s s' a a' w w') (d:List Deferred):Goes S G nt g g' s s' a { a' with defers:=d } w w' :=
 ⟨hG.le,⟨hG.rel.hp,hG.rel.sz,hG.rel.tm,hG.rel.exT,hG.rel.exTH,hG.rel.clT⟩,hG.keeps,hG.back,hG.im,hG.mm⟩
theorem b8d {K:a1n} (hK:SimK S G K) {f:Rand} {f':Operand} {ps:List Nat} {ca cb:AC} {x y:Code} (hf:MR S G f f') (h1:MC S G nt true ca x) (h2:MC S G nt true cb y) (hps:∀ p∈ps,p<nt)
 (X:a3Z) (e:a0U S.Γ X K (.rfunc f ps ca cb) s=some (ex,s')) (hR:Rel S G g nt s a w) (hd:Dfs n0 a w) (hn:n0<=w.heap.size) :
 (Code.rangeFunc f' ps.toArray x y).wpIn Fence.wide 0 S.P (Post S G nt n0 g s s' a w ex) a w:=by
 simp only [a0U] at e
 split at e
 ·rename_i id vs ht
  split at e
  ·cases e
  ·rename_i v0 h2' hk
   split at e
   ·rename_i st pend t1 ps1 ca1 cb1 hl
    split at e
    ·cases e
    ·rename_i hst
     split at e
     case isFalse=>cases e
     rename_i hun
     simp only [Option.some.injEq,Prod.mk.injEq] at e
     obtain ⟨rfl,rfl⟩:=e
     refine wpIn_rangeFunc fun fn _=>?_
     -- the two blocks
     let w1:World:=w.alloc (.deferred (some []))
     let L:Loop:={ state:=.ready,pending:=none,fn,tmps:=a.tmps,params:=ps.toArray,assign:=x,body:=y,defers:=w.heap.size }
     let wl:World:=w1.alloc (.loop L)
     have hs1:w1.heap.size=w.heap.size+1:=by simp [w1]
     have hG1:Goes S G nt g g s s a a w w1:=.grow hR (Grows.alloc g w _)
     have hG2:=hG1.trans (Goes.room hG1.rel 1)
     have hfree:(s.h++List.replicate 1 Obj.free)[s.h.length]?=some .free:=by simp
     have hle3:=c1z (b:=w1.heap.size) hG2.rel.hp hfree
     have hslot:∀ i,RV S (g.with s.h.length w1.heap.size) (get (a3i s.t) i) (a.tmps.getD i undef):=fun i=>by
      rw [b5q];exact (hR.tm i).a0r.mono hle3
     have hb3:=Goes.born (takes:=[]) (off0:=0) (o':=.loop .ready none (a3i s.t) ps ca cb) (ob:=.loop L) hG2.rel hfree rfl
      ⟨L,nt,heap_alloc_new _ _,rfl,rfl,by simp [L],h1,h2,hR.sz,hslot,hps⟩ (by
       rintro j b ⟨cs,es,l,vals,elem,fr,ad,m,cap,e1,_⟩
       simp at e1)
     have hG3:=hG2.trans hb3
     have hst3:({ t:=Pm.drop [] s.t,h:=(s.h++List.replicate 1 Obj.free).set s.h.length (.loop .ready none (a3i s.t) ps ca cb) }:St)=⟨s.t,s.h++[.loop .ready none (a3i s.t) ps ca cb]⟩:=by
      rw [b9C];rfl
     rw [hst3] at hG3
     have hσ3:(g.with s.h.length w1.heap.size).σ s.h.length=w.heap.size+1:=by simp [Gh.with,hs1]
     have hyv:RV S (g.with s.h.length w1.heap.size) (.sc (.fn (.yield s.h.length) [] [] [])) (.func (.yield (w.heap.size+1)) #[] #[]):=by
      have:=RC.yield (S:=S) (g:=g.with s.h.length w1.heap.size) s.h.length (.inl rfl)
      rw [hσ3] at this
      exact .sc _ _ this
     obtain ⟨d,ys,hd0,hld,hvs⟩:=b0n ((a0M hR hf).mono hG3.le) (⟨rfl,fun j v u a b=>by
      rcases j with _|j
      ·simp at a b;subst a;subst b;exact hyv
      ·simp at a⟩:RVs S (g.with s.h.length w1.heap.size) [.sc (.fn (.yield s.h.length) [] [] [])] [.func (.yield (w.heap.size+1)) #[] #[]]) ht
     obtain ⟨⟨fnn,hfn,hname,hbody⟩,hcall⟩:=hK (.fn id) vs _ v0 h2' hk _ wl ys hG3.rel.hp hvs
     obtain ⟨cap,htg,hargs⟩:=hld
     refine ⟨w.heap.size+1,[{ target:=.collected w.heap.size,args:=#[] }],wl,d,wl,S.fm id,ys.toArray,wl,run_enterLoop_outer fn a.tmps ps.toArray x y,?_,fun _ _=>trivial,?_,fun hc=>(by cases hc),hcall.mono fun e w3 hp=>?_⟩
     ·have:resolve a.eval (rangeCall f' (w.heap.size+1)) 0=pure d:=by
       simp only [resolve]
       rw [← hd0]
       congr 1
       simp [Act.eval]
      rw [this];rfl
     ·simp [invoke,htg,hargs,callFunc,hfn,hname,hbody]
     ·obtain ⟨xv,g4,rfl,hGH,_⟩:=hp
      have hG4:=hG3.trans (Goes.frame hG3.rel hGH)
      have hR4:=hG4.rel
      have hl4:g4.A s.h.length:=hGH.le.as _ (.inl rfl)
      have hσ4:g4.σ s.h.length=w.heap.size+1:=by rw [hGH.le.eq _ (.inl rfl),hσ3]
      obtain ⟨L4,nt4,hb4,k1,k2,_⟩:=hR4.hp.ob s.h.length _ hl
      rw [hσ4] at hb4
      have hnb:L4.state≠.busy:=by rw [k1];cases st<;>simp [lsOf] at hst ⊢
      refine ⟨L4.pending,w3.putObj (w.heap.size+1) (.loop { L4 with state:=.exhausted }),run_endLoop hb4 hnb,?_⟩
      -- the loop's object dies
      have hle5:g.Le (g4.kill h2' w3 (fun r=>s.h.length<=r) (fun r=>g4.A r/\r<s.h.length)) :=
       ⟨fun r hA=>⟨hG4.le.as r hA,A_lt hR.hp hA⟩,fun r hA=>hG4.le.eq r hA,fun b o v e=>a3O hR4.hp (hG4.le.im b o v e),fun b es e=>a3A hR4.hp (hG4.le.mm b es e)⟩
      have hG5:=hG4.kills (t':=s.t) (a9T hR4.hp s.h.length hun) (fun r hA=>⟨hG4.le.as r hA,A_lt hR.hp hA⟩) (fun i=>by
       have t0:=hR.tm i
       have t4:=hR4.tm i
       have t4':RT S g4 w3 (get s.t i) (a.tmps.getD i undef):=t4
       generalize hv:get s.t i=v at t0 t4'
       generalize hx:a.tmps.getD i undef=u at t0 t4'
       cases t0 with
       | rv _ _ h=>exact .rv _ _ (h.mono hle5)
       | none es=>exact .none es
       | own q es l b off cap _ =>
        cases t4' with
        | rv _ _ h =>
         cases h with
         | sc _ _ h=>exact absurd rfl (h.a2a _ _ _)
        | own _ _ _ _ _ _ ho =>
         have hc:a0S s.t a.tmps i b:=⟨q,es,l,_,_,_,hv,hx,rfl⟩
         exact .own _ _ _ _ _ _ (ho.keep (fun _ _ _ e=>a3O hR4.hp e) (fun _ _ e=>a3A hR4.hp e) rfl fun o hoo=>by
          rw [a6p (fun r o e hl=>hR4.clT i b r o hc e hl)];exact hoo)) (fun _ _ h=>h)
      have hO:Other (g4.kill h2' w3 (fun r=>s.h.length<=r) (fun r=>g4.A r/\r<s.h.length)) (h2'.take s.h.length) w3 (w.heap.size+1):=by
       refine ⟨fun cs t fr h=>(by rw [hb4] at h;cases h),fun es n h=>(by rw [hb4] at h;cases h),fun r o e hl5 hs5=>?_⟩
       rw [List.getElem?_take] at e
       split at e
       ·rename_i hlt
        have:=hR4.hp.inj r s.h.length o _ e hl hl5 rfl (by rw [hσ4];exact hs5)
        omega
       ·cases e
      have hG6:=(hG5.poke (ob:=.loop { L4 with state:=.exhausted }) (by omega) hO).defers ([{ target:=.collected w.heap.size,args:=#[] }]++a.defers)
      have hD6:Dfs n0 { a with defers:=[{ target:=.collected w.heap.size,args:=#[] }]++a.defers } (w3.putObj (w.heap.size+1) (.loop { L4 with state:=.exhausted })):=by
       obtain ⟨bs,d1,d2,d3⟩:=hd
       refine ⟨w.heap.size::bs,by simp [d1],List.nodup_cons.2 ⟨fun hm=>?_,d2⟩,fun b hb=>?_⟩
       ·have:=a2A (d3 _ hm).2;omega
       ·rcases List.mem_cons.1 hb with rfl|hb
        ·refine ⟨hn,?_⟩
         rw [World.putObj_heap_other (by omega)]
         have hw:wl.heap[w.heap.size]?=some (.deferred (some [])):=by
          show (w1.alloc _).heap[w.heap.size]?=_
          rw [a8K w1 _ _ (by omega)]
          exact heap_alloc_new w _
         have hkeep:=(Goes.frame hG3.rel hGH).keeps
         rw [hkeep.same _ (a2A hw) (a5o hG3.rel hw).2]
         exact hw
        ·obtain ⟨q1,q2⟩:=d3 b hb
         refine ⟨q1,?_⟩
         have hlt:=a2A q2
         rw [World.putObj_heap_other (by omega),hG4.keeps.same b hlt (a5o hR q2).2]
         exact q2
      have fin:∀ q,q=pend.getD .norm->Post S G nt n0 g s { s with h:=h2'.take s.h.length } a w (pend.getD .norm) (b4k q) { a with defers:=[{ target:=.collected w.heap.size,args:=#[] }]++a.defers } (w3.putObj (w.heap.size+1) (.loop { L4 with state:=.exhausted })) :=
       fun q hq=>⟨by rw [hq],_,hG6,hD6⟩
      generalize w3.putObj (w.heap.size+1) (.loop { L4 with state:=.exhausted })=W4 at fin ⊢
      rw [k2]
      cases pend with
      | none=>exact fin .norm rfl
      | some q =>
       cases q with
       | norm=>exact fin .norm rfl
       | exit id=>exact wpIn_exit (fin (.exit id) rfl)
       | ret=>exact wpIn_ret (fin .ret rfl)
   ·cases e
 ·cases e
theorem b8O (hmix:S.P.follows .mixedOrders=true) {X:a3Z} {K:a1n} (hX:SimX S G X) (hK:SimK S G K) {n:Nat} (hL:SimL S G X n):SimX S G (a0U S.Γ X K):=by
 intro r nt c c' hm
 have h0:∀ {s:St} {g a w n0},Rel S G g nt s a w->Dfs n0 a w->∀ {ex},Post S G nt n0 g s s a w ex (b4k ex) a w:=fun hR hd=>⟨rfl,_,.refl hR,hd⟩
 induction hm with
 | skip r =>
  intro s ex s' e ro hro g a w n0 hR hd hn
  simp only [a0U,Option.some.injEq,Prod.mk.injEq] at e
  obtain ⟨rfl,rfl⟩:=e
  exact wpIn_skip (h0 hR hd)
 | label r l =>
  intro s ex s' e ro hro g a w n0 hR hd hn
  simp only [a0U,Option.some.injEq,Prod.mk.injEq] at e
  obtain ⟨rfl,rfl⟩:=e
  exact wpIn_label (h0 hR hd)
 | seqLabel r l a y hmc ih =>
  intro s ex s' e ro hro g a w n0 hR hd hn
  exact wpIn_seq (wpIn_label (ih s ex s' e ro hro g a w n0 hR hd hn))
 | scope r a y hmc ih =>
  intro s ex s' e ro hro g a w n0 hR hd hn
  exact b7f (fun _ _ _=>b5A) (ih s ex s' e ro hro g a w n0 hR hd hn)
 | seq r a b x y h1 h2 ih1 ih2 =>
  intro s ex s' e ro hro g act w n0 hR hd hn
  simp only [a0U] at e
  cases hx:X a s with
  | none=>rw [hx] at e;cases e
  | some q =>
   obtain ⟨ex1,s1⟩:=q
   rw [hx] at e
   refine wpIn_seq (wpIn_mono (hX r nt a x h1 s ex1 s1 hx ro hro g act w n0 hR hd hn) fun e' a' w' hp=>?_)
   have he:=hp.1
   subst he
   cases ex1 with
   | norm =>
    obtain ⟨_,g1,hG,hd'⟩:=hp
    show y.wpIn _ _ _ _ _ _
    exact wpIn_mono (hX r nt b y h2 s1 ex s' e ro hro g1 a' w' n0 hG.rel hd' (Nat.le_trans hn hG.keeps.size)) fun e'' a'' w'' hp=>Post.trans hG hp
   | exit id =>
    simp only [Option.some.injEq,Prod.mk.injEq] at e
    obtain ⟨rfl,rfl⟩:=e
    exact hp
   | ret =>
    simp only [Option.some.injEq,Prod.mk.injEq] at e
    obtain ⟨rfl,rfl⟩:=e
    exact hp
 | cond r c c' a b x y hc h1 h2 ih1 ih2 =>
  intro s ex s' e ro hro g act w n0 hR hd hn
  simp only [a0U] at e
  have hcv:=a0M hR hc
  split at e
  ·rename_i hb
   rw [hb] at hcv
   exact wpIn_cond_true hcv.a5S (hX r nt a x h1 s ex s' e ro hro g act w n0 hR hd hn)
  ·rename_i hb
   rw [hb] at hcv
   exact wpIn_cond_false hcv.a5S (hX r nt b y h2 s ex s' e ro hro g act w n0 hR hd hn)
  ·cases e
 | block r id a x h1 ih1 =>
  intro s ex s' e ro hro g act w n0 hR hd hn
  simp only [a0U] at e
  cases hx:X a s with
  | none=>rw [hx] at e;cases e
  | some q =>
   obtain ⟨ex1,s1⟩:=q
   rw [hx] at e
   refine wpIn_block (wpIn_mono (hX r nt a x h1 s ex1 s1 hx ro hro g act w n0 hR hd hn) fun e' a' w' hp=>?_)
   have he:=hp.1
   subst he
   cases ex1 with
   | norm =>
    simp only [Option.some.injEq,Prod.mk.injEq] at e
    obtain ⟨rfl,rfl⟩:=e
    exact hp
   | exit id' =>
    simp only at e
    show if id'=id then _ else _
    split at e
    ·rename_i hid
     rw [if_pos hid]
     simp only [Option.some.injEq,Prod.mk.injEq] at e
     obtain ⟨rfl,rfl⟩:=e
     exact ⟨rfl,hp.2⟩
    ·rename_i hid
     rw [if_neg hid]
     simp only [Option.some.injEq,Prod.mk.injEq] at e
     obtain ⟨rfl,rfl⟩:=e
     exact hp
   | ret =>
    simp only [Option.some.injEq,Prod.mk.injEq] at e
    obtain ⟨rfl,rfl⟩:=e
    exact hp
 | loop r keep a x h1 ih1 =>
  intro s ex s' e ro hro g act w n0 hR hd hn
  exact wpIn_loop_rounds (n+1) (b4D hX hL r nt keep a x h1 s ex s' e ro hro g act w n0 hR hd hn _ fun _ _ _ hp=>hp)
 | exit r id =>
  intro s ex s' e ro hro g a w n0 hR hd hn
  simp only [a0U,Option.some.injEq,Prod.mk.injEq] at e
  obtain ⟨rfl,rfl⟩:=e
  exact wpIn_exit (h0 (ex:=.exit id) hR hd)
 | ret r =>
  intro s ex s' e ro hro g a w n0 hR hd hn
  simp only [a0U,Option.some.injEq,Prod.mk.injEq] at e
  obtain ⟨rfl,rfl⟩:=e
  exact wpIn_ret (h0 (ex:=.ret) hR hd)
 | frz r i a y h1 ih1 =>
  intro s ex s' e ro hro g act w n0 hR hd hn
  simp only [a0U] at e
  split at e
  ·rename_i s1 hf
   obtain ⟨g1,hG⟩:=b5o hR hf
   exact wpIn_mono (hX r nt a y h1 s1 ex s' e ro hro g1 act w n0 hG.rel hd hn) fun e' a' w' hp=>Post.trans hG hp
  ·cases e
 | frzc r i a y h1 ih1 =>
  intro s ex s' e ro hro g act w n0 hR hd hn
  simp only [a0U] at e
  split at e
  ·rename_i s1 hf
   obtain ⟨g1,hG⟩:=b4p hR hf
   exact wpIn_mono (hX r nt a y h1 s1 ex s' e ro hro g1 act w n0 hG.rel hd hn) fun e' a' w' hp=>Post.trans hG hp
  ·cases e
 | region r nal ops keep id ops' hm hk =>
  intro s ex s' e ro hro g a w n0 hR hd hn
  have hex:ex=.norm:=by
   simp only [a0U,Pm.region,Option.map_eq_some_iff,Prod.mk.injEq] at e
   obtain ⟨_,_,h,_⟩:=e
   exact h.symm
  subst hex
  have e':Pm.region S.Γ K nal ops false keep s=some (.norm,s'):=e
  exact b3t hK hmix hm (fun h=>by cases h) (by simpa using hk) hR e' ro fun _ a' w' g' hG hdf=>⟨rfl,g',hG,hd.goes hR hG hdf⟩
 | draw r nal ops keep id ops' hm hdr hk =>
  intro s ex s' e ro hro g a w n0 hR hd hn
  have hex:ex=.norm:=by
   simp only [a0U,Pm.region,Option.map_eq_some_iff,Prod.mk.injEq] at e
   obtain ⟨_,_,h,_⟩:=e
   exact h.symm
  subst hex
  have e':Pm.region S.Γ K nal ops true keep s=some (.norm,s'):=e
  exact b3t hK hmix hm (fun _=>hdr) (by simpa using hk) hR e' ro fun _ a' w' g' hG hdf=>⟨rfl,g',hG,hd.goes hR hG hdf⟩
 | stuck r c =>
  intro s ex s' e ro hro g a w n0 hR hd hn
  simp [a0U] at e
 | union r keep it dst n o nx r3 r4 r5 nxt m pr ks bx u kv z o0 o1 a0 a1 a2 a3 b0 b1 b2 hM =>
  intro s ex s' e ro hro g a w n0 hR hd hn
  exact b9X hM hR e ro fun hex a' w' g' hG hdf=>⟨by rw [hex];rfl,g',hG,hd.goes hR hG hdf⟩
 | rfunc f f' ps a b x y hf h1 h2 hp ih1 ih2 =>
  intro s ex s' e ro hro g act w n0 hR hd hn
  cases ro with
  | some l=>cases hro
  | none=>exact b8d hK hf h1 h2 hp X e hR hd hn
end
end Go.Pm
namespace Go.Pm
def MRes (P:Program):List (Nat × Option (Option Nat))->List ResultVar->Prop
 | [],[]=>True
 | (t,none)::rs,.tmp t'::rs'=>t=t'/\MRes P rs rs'
 | (t,some n)::rs,.cell t' ty::rs'=>t=t'/\TSh P ty n/\MRes P rs rs'
 | _,_=>False
structure FnOk (S:Seat) (G:List Nat) (id:Nat) (f:Fn):Prop where
 ex:∃ fn c,S.P.funcs[S.fm id]?=some fn/\fn.body=some c/\fn.name ≠ "runtime.NumGoroutine"/\fn.ntmps=f.nt/\MC S G f.nt false f.body c/\f.np<=f.nt/\MRes S.P f.res fn.results.toList
structure SeatOk (S:Seat) (G:List Nat):Prop where
 mixed:S.P.follows .mixedOrders=true
 fn:∀ id f,S.Γ.fn id=some f->FnOk S G id f
 prim:∀ id p vs h v h',S.Γ.fn id=none->S.Γ.prim id=some p->p vs h=some (v,h')->∀ g w xs,RelH S G g h w->RVs S g vs xs →
  (∃ fn,S.P.funcs[S.fm id]?=some fn/\fn.name ≠ "runtime.NumGoroutine"/\fn.body≠none)/\CallsIn Fence.wide 0 S.P (S.fm id) xs.toArray w (a3j S G g h h' w v)
section
variable {S:Seat} {G:List Nat} {g g' g'' g1:Gh} {nt n0:Nat} {s s' s'' s1 s2:St} {a a' a'' a1:Act} {w w' w'' w1:World} {h h':List Obj} {base:Nat} {ex ex':Ex}
theorem b1P:∀ (vs:List V) (n i:Nat),get (number n vs) i=if n<=i then (vs[i - n]?).getD (.sc .top) else .sc .top
 | [],n,i=>by simp [number,get]
 | v::vs,n,i=>by
  simp only [number,get]
  by_cases h:n=i
  ·subst h;simp
  ·rw [if_neg h,b1P vs (n+1) i]
   by_cases h2:n<=i
   ·rw [if_pos (by omega),if_pos h2,show i - n=(i - (n+1))+1 from by omega]
    simp
   ·rw [if_neg (by omega),if_neg h2]
theorem b9N {vs:List V} {xs:List Value} (hx:RVs S g vs xs) (k i:Nat):RV S g (get (number 0 vs) i) ((xs.toArray++Array.replicate k undef).getD i undef):=by
 rw [b1P]
 simp only [Nat.zero_le,if_true,Nat.sub_zero]
 cases hv:vs[i]? with
 | none=>exact .top _
 | some v =>
  have hlt:i<xs.length:=by rw [← hx.1];exact (List.getElem?_eq_some_iff.1 hv).1
  have:(xs.toArray++Array.replicate k undef).getD i undef=xs[i]:=by
   simp [Array.getD_eq_getD_getElem?,Array.getElem?_append,hlt]
  rw [this]
  exact hx.2 i v _ hv (List.getElem?_eq_getElem hlt)
theorem a7H {t:List (Nat × V)} {tm:Array Value} (h:∀ i,RV S g (get t i) (tm.getD i undef)) (i b:Nat):¬ a0S t tm i b:=by
 rintro ⟨p,es,l,ad,n,cap,h1,_⟩
 have:=h i
 rw [h1] at this
 cases this with
 | sc _ _ h=>exact absurd rfl (h.a2a _ es l)
theorem b3y (hR:RelH S G g h w) {t:List (Nat × V)} {tm:Array Value} (hsz:tm.size=nt) (ht:∀ i,RV S g (get t i) (tm.getD i undef)):Rel S G g nt ⟨t,h⟩ { tmps:=tm,defers:=[] } w :=
 ⟨hR,hsz,fun i=>.rv _ _ (ht i),fun i i' b c=>absurd c (a7H ht i b),fun i b r j c=>absurd c (a7H ht i b),fun i b r o c=>absurd c (a7H ht i b)⟩
theorem b5D (hR:Rel S G g nt s a w) {t:Nat} {n:Option Nat} {ty:TypeId} (hs:TSh S.P ty n) {v:V} (e:a7K s (t,some n)=some v) :
 ∃ x,((do loadVar ty (← asAddr (a.tmps.getD t undef)):Sem Value)).run S.P w=.ok x w/\RV S g v x:=by
 simp only [a7K] at e
 split at e
 ·rename_i r off hp
  have hx:RV S g (.sc (.ptr r off)) (a.tmps.getD t undef):=by
   have:=hR.tm t
   rw [hp] at this
   cases this with
   | rv _ _ h=>exact h
  obtain ⟨hA,hx⟩:=hx.a3J
  split at e
  ·rename_i cs hcs
   obtain ⟨vals,elem,hb,hs',hro⟩:=hR.hp.ob r _ hcs
   obtain ⟨y,hy,hrv⟩:=a9m (w:=w) (g:=g) (b:=g.σ r) (o:=0) hs (fun j c hj=>by
    have:j<vals.size:=Nat.lt_of_lt_of_le (List.getElem?_eq_some_iff.1 hj).1 hs'
    exact ⟨vals[j],by rw [Nat.zero_add,cell_of_heap hb,Array.getElem?_eq_getElem this],hro j c _ hj (Array.getElem?_eq_getElem this)⟩) e
   rw [Nat.zero_add] at hy
   exact ⟨y,by rw [hx];simp [asAddr,hy],hrv⟩
  ·cases e
 ·cases e
def a8U (tm:Array Value):ResultVar->Sem Value
 | .tmp t=>pure (tm.getD t undef)
 | .cell ad t=>do loadVar t (← asAddr (tm.getD ad undef))
theorem b6R (fn:Func) (tm:Array Value):Go.results fn tm=(do let vs ← fn.results.mapM (a8U tm);pure (if h:vs.size=1 then vs[0] else .tuple vs)):=by
 unfold Go.results
 congr 1
theorem a8B (hR:Rel S G g nt s a w):∀ {rs:List (Nat × Option (Option Nat))} {rs':List ResultVar} {vs:List V},MRes S.P rs rs'->results s rs=some vs →
 ∃ xs,(rs'.mapM (a8U a.tmps)).run S.P w=.ok xs w/\RVs S g vs xs
 | [],[],vs,_,e=>by
  simp only [results,Option.some.injEq] at e
  subst e
  exact ⟨[],by simp,rfl,fun j v x h=>by simp at h⟩
 | (t,none)::rs,.tmp t'::rs',vs,hm,e=>by
  obtain ⟨rfl,hm⟩:=hm
  simp only [results] at e
  split at e
  ·rename_i v vs' h1 h2
   simp only [Option.some.injEq] at e
   subst e
   obtain ⟨xs,hxs,hr⟩:=a8B hR hm h2
   simp only [a7K,Option.some.injEq] at h1
   subst h1
   refine ⟨a.tmps.getD t undef::xs,?_,by simp [hr.1],fun j v x k1 k2=>?_⟩
   ·simp only [List.mapM_cons,a8U,Sem.run_bind,Sem.run_pure,Result.andThen_ok,hxs]
   ·rcases j with _|j
    ·simp at k1 k2;subst k1;subst k2
     exact (by simpa [Array.getD_eq_getD_getElem?] using (hR.tm t).a0r)
    ·exact hr.2 j v x (by simpa using k1) (by simpa using k2)
  ·cases e
 | (t,some n)::rs,.cell t' ty::rs',vs,hm,e=>by
  obtain ⟨rfl,hs,hm⟩:=hm
  simp only [results] at e
  split at e
  ·rename_i v vs' h1 h2
   simp only [Option.some.injEq] at e
   subst e
   obtain ⟨xs,hxs,hr⟩:=a8B hR hm h2
   obtain ⟨y,hy,hrv⟩:=b5D hR hs h1
   refine ⟨y::xs,?_,by simp [hr.1],fun j v x k1 k2=>?_⟩
   ·have hy':(a8U a.tmps (.cell t ty)).run S.P w=.ok y w:=hy
    simp only [List.mapM_cons,Sem.run_bind,hy',Result.andThen_ok,hxs,Sem.run_pure]
   ·rcases j with _|j
    ·simp at k1 k2;subst k1;subst k2;exact hrv
    ·exact hr.2 j v x (by simpa using k1) (by simpa using k2)
  ·cases e
 | [],_::_,_,hm,_=>by cases hm
 | (_,none)::_,[],_,hm,_=>by cases hm
 | (_,some _)::_,[],_,hm,_=>by cases hm
 | (_,none)::_,.cell _ _::_,_,hm,_=>by cases hm
 | (_,some _)::_,.tmp _::_,_,hm,_=>by cases hm
theorem b5b {vs:List V} {xs:Array Value} (h:RVs S g vs xs.toList):RV S g (tuple vs) (if h:xs.size=1 then xs[0] else .tuple xs):=by
 match vs,h with
 | [],h =>
  have:xs.size=0:=by have:=h.1;simpa using this.symm
  rw [dif_neg (by omega)]
  exact .tup [] xs (by simp [this]) fun j v x a=>by simp at a
 | [v],h =>
  have:xs.size=1:=by have:=h.1;simpa using this.symm
  rw [dif_pos this]
  exact h.2 0 v _ rfl (by simp [this])
 | v::v2::vs,h =>
  have hs:xs.size=vs.length+2:=by have:=h.1;simpa using this.symm
  rw [dif_neg (by omega)]
  exact .tup _ xs (by simp [hs]) fun j u x a b=>h.2 j u x a (by simpa using b)
theorem a7X {fn:Func} {tm:Array Value} {R:Ending->World->Prop}:∀ (bs:List Nat) (g1:Gh) (w1:World),bs.Nodup->(∀ b∈bs,w.heap.size<=b/\w1.heap[b]?=some (.deferred (some [])))->Goes S G nt g g1 s s1 a { tmps:=tm,defers:=[] } w w1 →
 (∀ w2 g2,Goes S G nt g g2 s s1 a { tmps:=tm,defers:=[] } w w2->g2=g1->∃ v,(Go.results fn tm).run S.P w2=.ok v w2/\R (.returned v) w2) →
 LeavesInM Fence.wide 0 S.P fn tm R (bs.map fun b=>({ target:=.collected b,args:=#[] }:Deferred)) .returning w1
 | [],g1,w1,_,_,hG,hk=>hk w1 g1 hG rfl
 | b::bs,g1,w1,hnd,hb,hG,hk=>by
  obtain ⟨h1,h2⟩:=hb b (by simp)
  refine ⟨by simp,.inl ⟨b,_,rfl,run_takeDeferred h2,?_⟩⟩
  have hnd':=List.nodup_cons.1 hnd
  refine a7X bs g1 _ hnd'.2 (fun c hc=>?_) (hG.poke h1 (a5o hG.rel h2).1) hk
  obtain ⟨k1,k2⟩:=hb c (by simp [hc])
  refine ⟨k1,?_⟩
  have hcb:c≠b:=by rintro rfl;exact hnd'.1 hc
  rw [World.putObj_heap_other hcb]
  exact k2
theorem c2b {X:a3Z} (hX:SimX S G X) {id:Nat} {f:Fn} (hf:FnOk S G id f) {vs:List V} {v:V} (e:a3D S.Γ X (.fn id) vs h=some (v,h')) (hΓ:S.Γ.fn id=some f) (hR:RelH S G g h w) {xs:List Value} (hx:RVs S g vs xs) :
 (∃ fn,S.P.funcs[S.fm id]?=some fn/\fn.name ≠ "runtime.NumGoroutine"/\fn.body≠none)/\CallsIn Fence.wide 0 S.P (S.fm id) xs.toArray w (a3j S G g h h' w v):=by
 obtain ⟨fn,c,hfn,hbody,hname,hnt,hmc,hnp,hres⟩:=hf.ex
 refine ⟨⟨fn,hfn,hname,by rw [hbody];simp⟩,callsIn_of_wp_marks hfn hbody trivial ?_⟩
 simp only [a3D,hΓ] at e
 split at e
 ·cases e
 ·rename_i hlen
  simp only [ne_eq,Decidable.not_not] at hlen
  split at e
  ·rename_i ex1 s1 hx1
   have hsz:(xs.toArray++Array.replicate (fn.ntmps - xs.toArray.size) undef).size=f.nt:=by
    simp only [Array.size_append,List.size_toArray,Array.size_replicate,hnt]
    have:=hx.1
    omega
   have hst:=b9N hx (fn.ntmps - xs.toArray.size)
   have hrel:=b3y hR hsz hst
   have hwp:=hX false f.nt f.body c hmc ⟨number 0 vs,h⟩ ex1 s1 hx1 none rfl g _ w w.heap.size hrel ⟨[],rfl,List.nodup_nil,by simp⟩ (Nat.le_refl _)
   refine wpIn_mono hwp fun e' a' w' hp=>?_
   obtain ⟨rfl,g1,hG,bs,hd1,hd2,hd3⟩:=hp
   have fin:(match results s1 f.res with
    | some rs=>if f.opn then some (tuple rs,s1.h) else match a4X h.length s1.h rs with
     | some rs=>if (s1.h.take h.length).all (Obj.under h.length) then some (tuple rs,s1.h.take h.length) else none
     | none=>none
    | none=>none)=some (v,h')->LeavesInM Fence.wide 0 S.P fn a'.tmps (a3j S G g h h' w v) a'.defers .returning w':=by
    intro e
    split at e
    ·rename_i rs hrs
     have run2:∀ w2 g2,Goes S G f.nt g g2 ⟨number 0 vs,h⟩ s1 { tmps:=xs.toArray++Array.replicate (fn.ntmps - xs.toArray.size) undef,defers:=[] } { tmps:=a'.tmps,defers:=[] } w w2 →
      ∃ ys,(Go.results fn a'.tmps).run S.P w2=.ok (if h:ys.toArray.size=1 then ys.toArray[0] else .tuple ys.toArray) w2/\RVs S g2 rs ys:=fun w2 g2 hG2=>by
      obtain ⟨ys,hys,hrv⟩:=a8B hG2.rel hres hrs
      refine ⟨ys,?_,hrv⟩
      rw [b6R,Array.mapM_eq_mapM_toList]
      simp only [Sem.run_bind]
      have hys':(fn.results.toList.mapM (a8U a'.tmps)).run S.P w2=.ok ys w2:=hys
      rw [← bind_pure_comp,Sem.run_bind,hys',Result.andThen_ok,Sem.run_pure,Result.andThen_ok]
      rfl
     split at e
     ·simp only [Option.some.injEq,Prod.mk.injEq] at e
      obtain ⟨rfl,rfl⟩:=e
      rw [hd1]
      refine a7X (S:=S) (G:=G) (nt:=f.nt) (g:=g) (s:=⟨number 0 vs,h⟩) (s1:=s1) (a:={ tmps:=xs.toArray++Array.replicate (fn.ntmps - xs.toArray.size) undef,defers:=[] }) (w:=w) bs g1 w' hd2 hd3 (hG.defers []) (fun w2 g2 hG2 hg2=>?_)
      subst hg2
      obtain ⟨ys,hrun,hrv⟩:=run2 w2 g2 hG2
      exact ⟨_,hrun,_,g2,rfl,a6h.of (fun i b=>a7H hst i b) hG2,b5b (by simpa using hrv)⟩
     ·split at e
      ·rename_i rs' hfr
       split at e
       case isFalse=>cases e
       rename_i hun
       simp only [Option.some.injEq,Prod.mk.injEq] at e
       obtain ⟨rfl,rfl⟩:=e
       rw [hd1]
       refine a7X (S:=S) (G:=G) (nt:=f.nt) (g:=g) (s:=⟨number 0 vs,h⟩) (s1:=s1) (a:={ tmps:=xs.toArray++Array.replicate (fn.ntmps - xs.toArray.size) undef,defers:=[] }) (w:=w) bs g1 w' hd2 hd3 (hG.defers []) (fun w2 g2 hG2 hg2=>?_)
       subst hg2
       obtain ⟨ys,hrun,hrv⟩:=run2 w2 g2 hG2
       refine ⟨_,hrun,_,g2.above s1.h w2 h.length,rfl,(a6h.of (fun i b=>a7H hst i b) hG2).above hun (fun r hA=>A_lt hR hA),?_⟩
       exact b5b (by simpa using b4q hG2.rel.hp hfr hrv)
      ·cases e
    ·cases e
   cases ex1 with
   | norm=>exact fin e
   | ret=>exact fin e
   | exit id=>cases e
  ·cases e
/-! ### A round of a loop over a function -/
theorem a9z:∀ (ps:List Nat) (vs:List V) (t:List (Nat × V)) (tm:Array Value) (xs:List Value),(∀ i,RV S g (get t i) (tm.getD i undef))->RVs S g vs xs->(∀ p∈ps,p<tm.size) →
 ∀ i,RV S g (get (a2D ps vs t) i) (((ps.zip xs).foldl (fun tmps (p:Nat × Value)=>tmps.setIfInBounds p.1 p.2) tm).getD i undef)
 | [],vs,t,tm,xs,ht,_,_,i=>by simp only [a2D,List.zip_nil_left,List.foldl_nil];exact ht i
 | p::ps,[],t,tm,xs,ht,hx,_,i=>by
  have:xs=[]:=List.length_eq_zero_iff.1 hx.1.symm
  subst this
  simp only [a2D,List.zip_nil_right,List.foldl_nil];exact ht i
 | p::ps,v::vs,t,tm,[],ht,hx,_,i=>by have:=hx.1;simp at this
 | p::ps,v::vs,t,tm,x::xs,ht,hx,hp,i=>by
  simp only [a2D,List.zip_cons_cons,List.foldl_cons]
  refine a9z ps vs ((p,v)::t) (tm.setIfInBounds p x) xs (fun j=>?_) ⟨by simpa using hx.1,fun j v x a b=>hx.2 (j+1) v x (by simpa using a) (by simpa using b)⟩ (fun q hq=>by simpa using hp q (by simp [hq])) i
  simp only [get]
  have hplt:=hp p (by simp)
  by_cases hj:p=j
  ·subst hj
   rw [if_pos rfl]
   have:(tm.setIfInBounds p x).getD p undef=x:=by simp [Array.getD_eq_getD_getElem?,hplt]
   rw [this]
   exact hx.2 0 v x rfl rfl
  ·rw [if_neg hj]
   have:(tm.setIfInBounds p x).getD j undef=tm.getD j undef:=by simp [Array.getD_eq_getD_getElem?,hj]
   rw [this]
   exact ht j
theorem b1L:∀ (l:List (Nat × Value)) (tm:Array Value),(l.foldl (fun tmps (p:Nat × Value)=>tmps.setIfInBounds p.1 p.2) tm).size=tm.size
 | [],tm=>rfl
 | p::l,tm=>by rw [List.foldl_cons,b1L l];simp
theorem Goes.b6b (hR:Rel S G g nt s a w) {l:Nat} {o:Obj} {st:LS} {pend:Option Ex} {t:List (Nat × V)} {ps:List Nat} {ca cb:AC} (hl:s.h[l]?=some o) (ho:live o=true) {L:Loop}
 (hob:RObj S G g (w.putObj (g.σ l) (.loop L)) (.loop st pend t ps ca cb) (g.σ l)) :
 Goes S G nt g g s ⟨s.t,s.h.set l (.loop st pend t ps ca cb)⟩ a a w (w.putObj (g.σ l) (.loop L)) :=
 Goes.modify (takes:=[]) (off0:=0) hR hl ho rfl (fun b hb=>World.putObj_heap_other hb) (by simp) rfl rfl rfl hob (by
  rintro j b ⟨cs,es,l',vals,elem,fr,ad,m,cap,e1,_⟩
  have hlt:l<s.h.length:=(List.getElem?_eq_some_iff.1 hl).1
  simp [hlt] at e1)
theorem b8r {X:a3Z} (hX:SimX S G X) {l:Nat} {vs:List V} {v:V} (e:a3D S.Γ X (.yield l) vs h=some (v,h')) (hR:RelH S G g h w) {xs:List Value} (hx:RVs S g vs xs) :
 ∃ f tmps x y,(Instr.yield (g.σ l) xs.toArray).run S.P w=.ok (.round (g.σ l) f tmps x y) w/\RoundIn Fence.wide 0 S.P (g.σ l) f tmps x y w (a3j S G g h h' w v):=by
 simp only [a3D] at e
 split at e
 ·rename_i t ps ca cb hl
  split at e
  ·cases e
  ·rename_i hlen
   simp only [ne_eq,Decidable.not_not] at hlen
   obtain ⟨L,nt,hb,k1,k2,k3,k4,k5,k6,k7,k8⟩:=hR.ob l _ hl
   have hlA:=hR.lv l _ hl rfl
   have hpsz:L.params=ps.toArray:=by rw [← k3]
   have hfold:(L.params.zip xs.toArray).foldl (fun tmps (p:Nat × Value)=>tmps.setIfInBounds p.1 p.2) L.tmps=(ps.zip xs).foldl (fun tmps (p:Nat × Value)=>tmps.setIfInBounds p.1 p.2) L.tmps:=by
    rw [hpsz,List.zip_toArray,List.foldl_toArray]
   have hyield:=run_yield (P:=S.P) (args:=xs.toArray) hb (by rw [hpsz];simp;have:=hx.1;omega)
   have hyield':(Instr.yield (g.σ l) xs.toArray).run S.P w=.ok (.round (g.σ l) L.fn ((ps.zip xs).foldl (fun tmps (p:Nat × Value)=>tmps.setIfInBounds p.1 p.2) L.tmps) L.assign L.body) w:=by
    rw [← hfold];exact hyield
   refine ⟨L.fn,_,L.assign,L.body,hyield',roundIn_of_wpIn trivial ?_⟩
   have hst:=a9z ps vs t L.tmps xs k7 hx (fun p hp=>by rw [k6];exact k8 p hp)
   have hrel:=b3y (nt:=nt) hR (by rw [b1L];exact k6) hst
   split at e
   ·rename_i s1 hx1
    split at e
    ·rename_i t1 ps1 ca1 cb1 hl1
     split at e
     ·rename_i ex2 s2 hx2
      split at e
      ·rename_i pend2 t2 ps2 ca2 cb2 hl2
       by_cases hun:((s2.h.set l (.loop (if ex2=.norm then .ready else .done) (if ex2=.norm then none else some ex2) t2 ps2 ca2 cb2)).take h.length).all (Obj.under h.length)=true
       case neg=>rw [if_neg hun] at e;cases e
       rw [if_pos hun] at e
       simp only [Option.some.injEq,Prod.mk.injEq] at e
       obtain ⟨rfl,rfl⟩:=e
       have hwp:=hX true nt ca L.assign k4 _ .norm s1 hx1 (some (g.σ l)) rfl g _ w w.heap.size hrel ⟨[],rfl,List.nodup_nil,by simp⟩ (Nat.le_refl _)
       refine wpIn_mono hwp fun e' a1 w1 hp=>?_
       obtain ⟨rfl,g1,hG1,hD1⟩:=hp
       have hσ1:g1.σ l=g.σ l:=hG1.le.eq l hlA
       obtain ⟨L1,nt1,hb1,j1,j2,j3,j4,j5,j6,j7,j8⟩:=hG1.rel.hp.ob l _ hl1
       have hb1':=hb1
       rw [hσ1] at hb1'
       refine ⟨_,run_beginRound hb1' (by rw [j1];rfl),?_⟩
       have hlt1:=a2A hb1
       have hG2:=Goes.b6b (st:=.busy) (pend:=none) (t:=t1) (ps:=ps1) (ca:=ca1) (cb:=cb1) (L:={ L1 with state:=.busy }) hG1.rel hl1 rfl ⟨_,nt1,World.putObj_heap_same hlt1,rfl,j2,j3,j4,j5,j6,j7,j8⟩
       rw [hσ1] at hG2
       have hG12:=hG1.trans hG2
       have hD2:=hD1.goes hG1.rel hG2 rfl
       have hwp2:=hX true nt cb L.body k5 _ ex2 s2 hx2 (some (g.σ l)) rfl g1 a1 _ w.heap.size hG2.rel hD2 hG12.keeps.size
       refine wpIn_mono hwp2 fun e' a2 w2 hp=>?_
       obtain ⟨rfl,g2,hG3,hD3⟩:=hp
       have hG:=hG12.trans hG3
       have hσ2:g2.σ l=g.σ l:=hG.le.eq l hlA
       obtain ⟨L2,nt2,hb2,i1,i2,i3,i4,i5,i6,i7,i8⟩:=hG.rel.hp.ob l _ hl2
       have hb2':=hb2
       rw [hσ2] at hb2'
       have hlt2:=a2A hb2
       have key:∀ (jump:Option Code),jump=b1F ex2->∃ v w',(Instr.endRound (g.σ l) jump).run S.P w2=.ok v w'/\a3j S G g h ((s2.h.set l (.loop (if ex2=.norm then .ready else .done) (if ex2=.norm then none else some ex2) t2 ps2 ca2 cb2)).take h.length) w (.sc (.bool (decide (ex2=.norm)))) (.returned v) w':=by
        intro jump hj
        have hjn:jump.isNone=decide (ex2=.norm):=by subst hj;cases ex2<;>simp [b1F]
        refine ⟨_,_,run_endRound jump hb2',?_⟩
        have hG4:=Goes.b6b (st:=if ex2=.norm then .ready else .done) (pend:=if ex2=.norm then none else some ex2) (t:=t2) (ps:=ps2) (ca:=ca2) (cb:=cb2) (L:={ L2 with state:=if jump.isNone then .ready else .done,pending:=jump }) hG.rel hl2 rfl
         ⟨_,nt2,World.putObj_heap_same hlt2,by rw [hjn];cases ex2<;>simp [lsOf],by subst hj;cases ex2<;>simp [b1F],i3,i4,i5,i6,i7,i8⟩
        rw [hσ2] at hG4
        have hGo:=a6h.of (fun i b=>a7H hst i b) (hG.trans hG4)
        refine ⟨_,_,rfl,hGo.above hun (fun r hA=>A_lt hR hA),?_⟩
        rw [hjn]
        exact .sc _ _ (.bool _)
       cases ex2 with
       | norm=>exact key none rfl
       | exit id=>exact key (some (.exit id)) rfl
       | ret=>exact key (some .ret) rfl
      ·cases e
     ·cases e
    ·cases e
   ·cases e
 ·cases e
theorem b8C (hS:SeatOk S G) {X:a3Z} (hX:SimX S G X):SimK S G (a3D S.Γ X):=by
 intro fk vs h v h' e g w xs hR hx
 cases fk with
 | fn id =>
  cases hΓ:S.Γ.fn id with
  | some f=>exact c2b hX (hS.fn id f hΓ) e hΓ hR hx
  | none =>
   simp only [a3D,hΓ] at e
   split at e
   ·rename_i p hp
    exact hS.prim id p vs h v h' hΓ hp e g w xs hR hx
   ·cases e
 | yield l=>exact b8r hX e hR hx
theorem b6k (hS:SeatOk S G):∀ n,SimX S G (run S.Γ n).1/\SimK S G (run S.Γ n).2/\SimL S G (run S.Γ n).1 n
 | 0=>⟨fun r nt c c' _ s ex s' e=>by simp [run] at e,fun fk vs h v h' e=>by simp [run] at e,fun r nt keep c x _ s ex s' e=>by simp [run] at e⟩
 | n+1=>by
  obtain ⟨h1,h2,h3⟩:=b6k hS n
  exact ⟨b8O hS.mixed h1 h2 h3,b8C hS h1,b4D h1 h3⟩
theorem c3k (hS:SeatOk S G) {id:Nat} {vs:List V} {v:V} (e:K S.Γ (.fn id) vs h=some (v,h')) (hR:RelH S G g h w) {xs:List Value} (hx:RVs S g vs xs):Calls S.P (S.fm id) xs.toArray w (a3j S G g h h' w v):=by
 obtain ⟨n,hn⟩:=a9e.1 e
 exact callsIn_wide.1 ((b6k hS n).2.1 (.fn id) vs h v h' hn g w xs hR hx).2
end
end Go.Pm
namespace Go.Pm
def kc:C->Value->Bool
 | .int k n,.int k' m=>decide (k=k')&&decide (n=m)
 | .bool a,.bool b=>a == b
 | .str a,.string b=>decide (a=b)
 | .nilf,.nilFunc=>true
 | .nilp,.pointer none=>true
 | .nili,.nilIface=>true
 | .sl .nil _ [],.slice none 0 0=>true
 | .imap _ _ [],.map none=>true
 | _,_=>false
theorem c0g {c:C} {v:Value} (h:kc c v=true):KC c v:=by
 unfold kc at h
 split at h
 ·simp at h;obtain ⟨rfl,rfl⟩:=h;exact .int _ _
 ·simp at h;subst h;exact .bool _
 ·simp at h;subst h;exact .str _
 ·exact .nilf
 ·exact .nilp
 ·exact .nili
 ·exact .slNil _
 ·exact .imapNil _ _
 ·cases h
def kl:List C->List Value->Bool
 | [],[]=>true
 | c::cs,v::vs=>kc c v&&kl cs vs
 | _,_=>false
theorem b6z:∀ {cs:List C} {vs:List Value},kl cs vs=true->KL cs vs
 | [],[],_=>⟨rfl,fun j c v h=>by simp at h⟩
 | c::cs,v::vs,h=>by
  simp only [kl,Bool.and_eq_true] at h
  obtain ⟨h1,h2⟩:=b6z h.2
  refine ⟨by simp [h1],fun j x y a b=>?_⟩
  rcases j with _|j
  ·simp at a b;subst a;subst b;exact c0g h.1
  ·exact h2 j x y (by simpa using a) (by simpa using b)
 | [],_::_,h=>by cases h
 | _::_,[],h=>by cases h
def kv:V->Value->Bool
 | .agg z,.agg vs=>kl z vs.toList
 | .tup [],.tuple vs=>vs.isEmpty
 | .sc c,v=>kc c v
 | _,_=>false
theorem c0j {v:V} {x:Value} (h:kv v x=true):KV v x:=by
 unfold kv at h
 split at h
 ·exact .agg _ _ (b6z h)
 ·rename_i vs
  have:vs=#[]:=by simpa using h
  subst this
  exact .undef
 ·exact .sc _ _ (c0g h)
 ·cases h
section
variable (S:Seat) (G:List Nat)
def mr:Rand->Operand->Bool
 | .t i,.tmp j=>i == j
 | .k v,.const x=>kv v x
 | .f id,.func f=>S.fm id == f
 | .g id,.global n=>G.contains id&&S.gm id == n
 | _,_=>false
variable {S G} in
theorem a0H {x:Rand} {y:Operand} (h:mr S G x y=true):MR S G x y:=by
 unfold mr at h
 split at h
 ·simp at h;subst h;exact .t _
 ·exact .k _ _ (c0j h)
 ·simp at h;subst h;exact .f _
 ·simp at h;obtain ⟨h1,rfl⟩:=h;exact .g _ h1
 ·cases h
def mt:Rand->Operand->Bool
 | .tk i,.tmp j=>i == j
 | x,y=>mr S G x y
variable {S G} in
theorem b2e {x:Rand} {y:Operand} (h:mt S G x y=true):MT S G x y:=by
 unfold mt at h
 split at h
 ·simp at h;subst h;exact .tk _
 ·exact .r _ _ (a0H h)
def mrs:List Rand->List Operand->Bool
 | [],[]=>true
 | x::xs,y::ys=>mr S G x y&&mrs xs ys
 | _,_=>false
variable {S G} in
theorem a6r:∀ {xs:List Rand} {ys:List Operand},mrs S G xs ys=true->MRs S G xs ys
 | [],[],_=>trivial
 | x::xs,y::ys,h=>by
  simp only [mrs,Bool.and_eq_true] at h
  exact ⟨a0H h.1,a6r h.2⟩
 | [],_::_,h=>by cases h
 | _::_,[],h=>by cases h
def mp:Rand->Operand->Bool
 | .pk _,.tmp _=>true
 | x,y=>mr S G x y
variable {S G} in
theorem f4T {x:Rand} {y:Operand} (h:mp S G x y=true):MP S G x y:=by
 unfold mp at h
 split at h
 ·exact .pk _ _
 ·exact .r _ _ (a0H h)
def mps:List Rand->List Operand->Bool
 | [],[]=>true
 | x::xs,y::ys=>mp S G x y&&mps xs ys
 | _,_=>false
variable {S G} in
theorem f1Z:∀ {xs:List Rand} {ys:List Operand},mps S G xs ys=true->MPs S G xs ys
 | [],[],_=>trivial
 | x::xs,y::ys,h=>by
  simp only [mps,Bool.and_eq_true] at h
  exact ⟨f4T h.1,f1Z h.2⟩
 | [],_::_,h=>by cases h
 | _::_,[],h=>by cases h
def mro:Option Rand->Option Operand->Bool
 | none,none=>true
 | some x,some y=>mr S G x y
 | _,_=>false
variable {S G} in
theorem a7n {x:Option Rand} {y:Option Operand} (h:mro S G x y=true):MRo S G x y:=by
 unfold mro at h
 split at h
 ·trivial
 ·exact a0H h
 ·cases h
end
section
variable (P:Program)
def szIs (t:TypeId) (n:Nat):Bool:=match P.info? t with
 | some i=>i.size == n
 | none=>false
variable {P} in
theorem a5w {t:TypeId} {n:Nat} (h:szIs P t n=true):a3o P t n:=by
 unfold szIs at h
 split at h
 ·rename_i i hi;exact ⟨i,hi,by simpa using h⟩
 ·cases h
def tsh (t:TypeId):Option Nat->Bool
 | none=>match P.underlying t with
  | some d=>!a5C d
  | none=>false
 | some n=>match P.underlying t with
  | some d=>a5C d&&szIs P t n
  | none=>false
variable {P} in
theorem b0q {t:TypeId} {n:Option Nat} (h:tsh P t n=true):TSh P t n:=by
 cases n with
 | none =>
  simp only [tsh] at h
  split at h
  ·rename_i d hd;exact ⟨d,hd,by simpa using h⟩
  ·cases h
 | some n =>
  simp only [tsh] at h
  split at h
  ·rename_i d hd
   simp only [Bool.and_eq_true] at h
   obtain ⟨i,hi,hs⟩:=a5w h.2
   exact ⟨d,i,hd,h.1,hi,hs⟩
  ·cases h
def tz (t:TypeId) (z:List C):Bool:=match P.info? t with
 | some i=>match i.zero with
  | some zv=>kl z zv.cells.toList
  | none=>false
 | none=>false
variable {P} in
theorem b2w {t:TypeId} {z:List C} (h:tz P t z=true):a5G P t z:=by
 unfold tz at h
 split at h
 ·rename_i i hi
  split at h
  ·rename_i zv hz;exact ⟨i,zv,hi,hz,b6z h⟩
  ·cases h
 ·cases h
def tzv (t:TypeId) (z:V):Bool:=match P.info? t with
 | some i=>match i.zero with
  | some zv=>kv z zv
  | none=>false
 | none=>false
variable {P} in
theorem b5d {t:TypeId} {z:V} (h:tzv P t z=true):a7g P t z:=by
 unfold tzv at h
 split at h
 ·rename_i i hi
  split at h
  ·rename_i zv hz;exact ⟨i,zv,hi,hz,c0j h⟩
  ·cases h
 ·cases h
def a5A (t:TypeId) (ty:KT):Bool:=match flat P 20 t with
 | some k=>k.agg == ty.agg&&decide (k.tags=ty.tags)
 | none=>false
variable {P} in
theorem a4o {t:TypeId} {ty:KT} (h:a5A P t ty=true):flat P 20 t=some ty:=by
 unfold a5A at h
 split at h
 ·rename_i k hk
  simp only [Bool.and_eq_true,beq_iff_eq,decide_eq_true_eq] at h
  obtain ⟨a,b⟩:=k
  obtain ⟨c,d⟩:=ty
  simp only at h
  obtain ⟨rfl,rfl⟩:=h
  exact hk
 ·cases h
def sliceOf (t:TypeId):Option TypeId:=match P.underlying t with
 | some (.slice e)=>some e
 | _=>none
def b1u (t:TypeId):Option (Nat × TypeId):=match P.underlying t with
 | some (.array n e)=>some (n,e)
 | _=>none
def mapOf (t:TypeId):Option (TypeId × TypeId):=match P.underlying t with
 | some (.map k e)=>some (k,e)
 | _=>none
def b1K (t:TypeId):Option (Array Field):=match P.underlying t with
 | some (.struct fs)=>some fs
 | _=>none
variable {P} in
theorem a4F {t e:TypeId} (h:sliceOf P t=some e):P.underlying t=some (.slice e):=by
 unfold sliceOf at h
 split at h
 ·rename_i e' he;cases h;exact he
 ·cases h
variable {P} in
theorem b0W {t e:TypeId} {n:Nat} (h:b1u P t=some (n,e)):P.underlying t=some (.array n e):=by
 unfold b1u at h
 split at h
 ·rename_i e' he;cases h;exact he
 ·cases h
variable {P} in
theorem a5f {t k e:TypeId} (h:mapOf P t=some (k,e)):P.underlying t=some (.map k e):=by
 unfold mapOf at h
 split at h
 ·rename_i e' he;cases h;exact he
 ·cases h
variable {P} in
theorem b2X {t:TypeId} {fs:Array Field} (h:b1K P t=some fs):P.underlying t=some (.struct fs):=by
 unfold b1K at h
 split at h
 ·rename_i e' he;cases h;exact he
 ·cases h
def isStr (t:TypeId):Bool:=match P.underlying t with
 | some .string=>true
 | _=>false
variable {P} in
theorem b4z {t:TypeId} (h:isStr P t=true):P.underlying t=some .string:=by
 unfold isStr at h
 split at h
 ·assumption
 ·cases h
def b3J (t t2:TypeId) (es:Nat):Bool:=match sliceOf P t,sliceOf P t2 with
 | some e,some _=>match P.info? e with
  | some i=>match i.zero with
   | some zv=>i.size == es&&decide (i.bytes<=16384)&&decide (0<i.bytes)&&decide (0<es)&&zv.cells.size == es
   | none=>false
  | none=>false
 | _,_=>false
end
theorem b3X {S:Seat} {t t2:TypeId} {es:Nat} (h:b3J S.P t t2 es=true):Nonempty (AppTy S t t2 es):=by
 unfold b3J at h
 split at h
 ·rename_i e e2 h1 h2
  split at h
  ·rename_i i hi
   split at h
   ·rename_i zv hz
    simp only [Bool.and_eq_true,beq_iff_eq,decide_eq_true_eq] at h
    obtain ⟨⟨⟨⟨a,b⟩,c⟩,d⟩,f⟩:=h
    exact ⟨⟨e,e2,i,zv,a4F h1,a4F h2,hi,a,b,c,d,hz,f⟩⟩
   ·cases h
  ·cases h
 ·cases h
section
variable (S:Seat) (G:List Nat)
def placesOf (t:TypeId):Option (Nat->Option (Nat × Nat)) :=
 match S.P.underlying t with
 | some (.struct fs)=>if fs.all fun x=>(S.P.info? x.type).isSome then some fun i=>fs[i]?.map fun x=>(x.offset,S.P.cellsOf x.type) else none
 | some (.array _ e)=>if (S.P.info? e).isSome then some fun i=>some (i*S.P.cellsOf e,S.P.cellsOf e) else none
 | _=>none
def isTrue:Operand->Bool
 | .const (.bool b)=>b
 | _=>false
theorem b3f {v:Operand} (h:isTrue v=true):v=.const (.bool true):=by
 unfold isTrue at h
 split at h
 ·subst h;rfl
 ·cases h
def mop:Op->Go.Op->Bool
 | .mv x,.move x'=>mt S G x x'
 | .mv x,.assign x'=>mt S G x x'
 | .pick c a b,.pick c' a' b'=>mr S G c c'&&mr S G a a'&&mr S G b b'
 | .alloc _ z,.alloc t=>tz S.P t z
 | .box _ x,.box _ x'=>mt S G x x'
 | .build z ps,.build t ps'=>tz S.P t z&&mrs S G (ps.map (·.2.2)) (ps'.toList.map (·.2))&&(match placesOf S t with
  | some f=>decide ((ps.map fun p=>some (p.1,p.2.1))=(ps'.toList.map fun p=>f p.1))
  | none=>false)
 | .bslice es n z ps,.buildSlice t n' ps'=>(match sliceOf S.P t with
  | some e=>szIs S.P e es&&tz S.P e z&&decide (n=n')&&decide (n*es<=2 ^ 24)&&decide (0<es)&&decide (ps.map (·.1)=ps'.toList.map (·.1))&&mrs S G (ps.map (·.2)) (ps'.toList.map (·.2))
  | none=>false)
 | .bslice es n z ps,.makeSlice t (.const (.int .i64 (.ofNat l))) (.const (.int .i64 (.ofNat c)))=>(match sliceOf S.P t with
  | some e=>(match S.P.info? e with
   | some i=>i.size == es&&tz S.P e z&&ps.isEmpty&&decide (n=l)&&decide (n=c)&&decide (n*es<=2 ^ 24)&&decide (0<es)&&decide (i.bytes*n<=2 ^ 40)
   | none=>false)
  | none=>false)
 | .load n x,.load t x'=>mr S G x x'&&tsh S.P t n
 | .loadT x,.load t x'=>mr S G x x'&&tsh S.P t none
 | .store n x v,.store t x' v'=>mr S G x x'&&mt S G v v'&&szIs S.P t n
 | .bin op x y,.binOp op' _ x' y' _=>decide (op=op')&&mr S G x x'&&mr S G y y'
 | .eqf neg ty x y,.binOp op' t x' y' _=>decide (op'=if neg then .neq else .eql)&&mr S G x x'&&mr S G y y'&&a5A S.P t ty&&(ty.agg||(!ty.agg&&decide (ty.tags=[0])))&&!S.P.eqGuardType S.P.depth t
 | .isnil kd neg x,.binOp op' t x' (.const y) _=>decide (op'=if neg then .neq else .eql)&&mr S G x x'&&(match kd,y,S.P.underlying t with
  | 0,.slice none 0 0,some (.slice _)=>true
  | 1,.nilFunc,some (.func _ _ _)=>true
  | 2,.pointer none,some (.pointer _)=>true
  | _,_,_=>false)
 | .un op x,.unOp op' _ x'=>decide (op=op')&&mr S G x x'
 | .conv k x,.convert s d x'=>mr S G x x'&&(match S.P.underlying d,S.P.underlying s with
  | some (.int k'),some (.int _)=>decide (k=k')
  | _,_=>false)
 | .mkf id _ first cap,.makeFunc (.func f) first' cap'=>S.fm id == f&&mrs S G first first'.toList&&mrs S G cap cap'.toList
 | .mkmap _ _ _,.makeMap _ none=>true
 | .slice es x lo hi mx,.slice t x' lo' hi' mx'=>mr S G x x'&&mro S G lo lo'&&mro S G hi hi'&&mro S G mx mx'&&(match sliceOf S.P t with
  | some e=>szIs S.P e es
  | none=>false)
 | .slArr n es x lo hi mx,.slice t x' lo' hi' mx'=>mr S G x x'&&mro S G lo lo'&&mro S G hi hi'&&mro S G mx mx'&&(match b1u S.P t with
  | some (n',e)=>n == n'&&szIs S.P e es
  | none=>false)
 | .faddr off x,.fieldAddr t x' i=>mr S G x x'&&(match b1K S.P t with
  | some fs=>(match fs[i]? with
   | some f=>f.offset == off&&(match S.P.info? f.type with|some i=>i.size != 0|none=>false)
   | none=>false)
  | none=>false)
 | .field off n x,.field t x' i=>mr S G x x'&&(match b1K S.P t with
  | some fs=>(match fs[i]? with
   | some f=>f.offset == off&&tsh S.P f.type n
   | none=>false)
  | none=>false)
 | .iaddr es x i,.indexAddr t x' i'=>mr S G x x'&&mr S G i i'&&(match sliceOf S.P t with
  | some e=>szIs S.P e es
  | none=>false)
 | .iarr len es x i,.indexAddr t x' i'=>mr S G x x'&&mr S G i i'&&(match b1u S.P t with
  | some (n,e)=>n == len&&szIs S.P e es
  | none=>false)
 | .index len es n x i,.index t x' i'=>mr S G x x'&&mr S G i i'&&(match b1u S.P t with
  | some (m,e)=>m == len&&szIs S.P e es&&tsh S.P e n
  | none=>false)
 | .istr x i,.index t x' i'=>mr S G x x'&&mr S G i i'&&isStr S.P t
 | .lookup ok ty z m key,.lookup t m' key' ok'=>ok == ok'&&mr S G m m'&&mr S G key key'&&(match mapOf S.P t with
  | some (k,e)=>tzv S.P e z&&a5A S.P k ty
  | none=>false)
 | .mupd ty m key v,.mapUpdate t m' key' v'=>mr S G m m'&&mr S G key key'&&mr S G v v'&&(match mapOf S.P t with
  | some (k,_)=>a5A S.P k ty
  | none=>false)
 | .mupd ty m key v,.insert t m' key' v'=>mr S G m m'&&mr S G key key'&&mr S G v v'&&(match mapOf S.P t with
  | some (k,_)=>a5A S.P k ty
  | none=>false)
 | .mkset _ _,.makeMap _ none=>true
 | .kset _ _,.makeMap _ none=>true
 | .slook n m key,.lookup t m' key' false=>mr S G m m'&&mr S G key key'&&(match mapOf S.P t with
  | some (k,e)=>tzv S.P e (.sc (.bool false))&&a5A S.P k ⟨true,List.replicate n 1⟩
  | none=>false)
 | .sadd n m key,.mapUpdate t m' key' v'=>mr S G m m'&&mr S G key key'&&isTrue v'&&(match mapOf S.P t with
  | some (k,_)=>a5A S.P k ⟨true,List.replicate n 1⟩
  | none=>false)
 | .sadd n m key,.insert t m' key' v'=>mr S G m m'&&mr S G key key'&&isTrue v'&&(match mapOf S.P t with
  | some (k,_)=>a5A S.P k ⟨true,List.replicate n 1⟩
  | none=>false)
 | .rng _ x,.range t x'=>mr S G x x'&&(match mapOf S.P t with
  | some _=>true
  | none=>false)
 | .ext x i,.extract x' i'=>mr S G x x'&&i == i'
 | .nilchk x,.nilCheck x'=>mr S G x x'
 | o,.call ⟨.builtin b,args,ts⟩=>(match o,b,args.toList,ts.toList with
  | .len 1 (.pk i),.len,[.tmp j],[t]=>i == j&&(match sliceOf S.P t with
   | some _=>true
   | none=>false)
  | .len k x,.len,[x'],[t]=>mr S G x x'&&(match k,S.P.underlying t with
   | 0,some .string=>true
   | 1,some (.slice _)=>true
   | 2,some (.map _ _)=>true
   | _,_=>false)
  | .lenArr n,.len,[_],[t]=>(match S.P.underlying t with
   | some (.array m _)=>n == m
   | some (.pointer p)=>(match S.P.underlying p with|some (.array m _)=>n == m|_=>false)
   | _=>false)
  | .min x xs,.min,x'::xs',_=>mr S G x x'&&mrs S G xs xs'
  | .max x xs,.max,x'::xs',_=>mr S G x x'&&mrs S G xs xs'
  | .append es x y,.append,[x',y'],[t,t2]=>mt S G x x'&&mr S G y y'&&b3J S.P t t2 es
  | .appendP es x y,.append,[x',y'],[t,t2]=>mt S G x x'&&mr S G y y'&&b3J S.P t t2 es
  | .appendM _ es x y,.append,[x',y'],[t,t2]=>mr S G x x'&&mr S G y y'&&b3J S.P t t2 es
  | .copy es x y,.copy,[x',y'],[t,_]=>mr S G x x'&&mr S G y y'&&decide (0<es)&&(match sliceOf S.P t with
   | some e=>szIs S.P e es
   | none=>false)
  | .clear es z x,.clear,[x'],[t]=>mr S G x x'&&decide (0<es)&&(match sliceOf S.P t with
   | some e=>tz S.P e z
   | none=>false)
  | _,_,_,_=>false)
 | .call p f args,.call ⟨.value f',args',_⟩=>mr S G f f'&&(mrs S G args args'.toList||(p&&mps S G args args'.toList))
 | _,_=>false
end
end Go.Pm
namespace Go.Pm
section
variable {S:Seat} {G:List Nat}
theorem b5z {t:TypeId} {f:Nat->Option (Nat × Nat)} (h:placesOf S t=some f) :
    (∃ fs,S.P.underlying t=some (.struct fs)/\(∀ x∈fs,(S.P.info? x.type).isSome)/\f=fun i=>fs[i]?.map fun x=>(x.offset,S.P.cellsOf x.type)) ∨
       (∃ len e,S.P.underlying t=some (.array len e)/\(S.P.info? e).isSome/\f=fun i=>some (i*S.P.cellsOf e,S.P.cellsOf e)):=by
  unfold placesOf at h
  split at h
  · rename_i fs hu
    split at h
    · rename_i hall
      simp only [Option.some.injEq] at h
      exact .inl ⟨fs,hu,fun x hx=>Array.all_eq_true_iff_forall_mem.1 hall x hx,h.symm⟩
    · cases h
  · rename_i n e hu
    split at h
    · rename_i hi
      simp only [Option.some.injEq] at h
      exact .inr ⟨n,e,hu,hi,h.symm⟩
    · cases h
  · cases h
theorem c3M {ty:KT} (h1:ty.agg=false) (h2:ty.tags=[0]):ty=⟨false,[0]⟩:=by
 cases ty
 simp_all
theorem b7U {o:Op} {o':Go.Op} (h:mop S G o o'=true):MOp S G o o':=by
 unfold mop at h
 split at h
 ·exact .mv _ _ (b2e h)
 ·exact .asg _ _ (b2e h)
 ·simp only [Bool.and_eq_true] at h
  exact .pick _ _ _ _ _ _ (a0H h.1.1) (a0H h.1.2) (a0H h.2)
 ·exact .alloc _ _ _ (b2w h)
 ·exact .box _ _ _ _ (b2e h)
 ·simp only [Bool.and_eq_true] at h
  obtain ⟨⟨h1,h2⟩,h3⟩:=h
  split at h3
  ·rename_i f hf
   exact .build _ _ _ _ (b2w h1) ⟨f,of_decide_eq_true h3,b5z hf⟩ (a6r h2)
  ·cases h3
 ·split at h
  ·rename_i e he
   simp only [Bool.and_eq_true,decide_eq_true_eq] at h
   obtain ⟨⟨⟨⟨⟨⟨h1,h2⟩,rfl⟩,h4⟩,h5⟩,h6⟩,h7⟩:=h
   exact .bslice _ _ _ _ _ _ e (a4F he) (a5w h1) (b2w h2) h4 h5 h6 (a6r h7)
  ·cases h
 ·rename_i es n z ps t l c
  split at h
  ·rename_i e he
   split at h
   ·rename_i i hi
    simp only [Bool.and_eq_true,decide_eq_true_eq,beq_iff_eq,List.isEmpty_iff] at h
    obtain ⟨⟨⟨⟨⟨⟨⟨h1,h2⟩,rfl⟩,rfl⟩,rfl⟩,h4⟩,h5⟩,h6⟩:=h
    exact .mkslice _ _ _ _ e i (a4F he) hi h1 (b2w h2) h4 h5 h6
   ·cases h
  ·cases h
 ·simp only [Bool.and_eq_true] at h
  exact .load _ _ _ _ (a0H h.1) (b0q h.2)
 ·simp only [Bool.and_eq_true] at h
  exact .loadT _ _ _ (a0H h.1) (b0q h.2)
 ·simp only [Bool.and_eq_true] at h
  exact .store _ _ _ _ _ _ (a0H h.1.1) (b2e h.1.2) (a5w h.2)
 ·simp only [Bool.and_eq_true,decide_eq_true_eq] at h
  obtain ⟨⟨rfl,h1⟩,h2⟩:=h
  exact .bin _ _ _ _ _ _ _ (a0H h1) (a0H h2)
 ·simp only [Bool.and_eq_true,decide_eq_true_eq,Bool.or_eq_true,Bool.not_eq_true'] at h
  obtain ⟨⟨⟨⟨⟨rfl,h1⟩,h2⟩,h3⟩,h4⟩,h5⟩:=h
  refine .eqf _ _ _ _ _ _ _ _ 20 (a0H h1) (a0H h2) (a4o h3) (by omega) ?_ h5
  rcases h4 with h4|⟨h4,h6⟩
  ·exact .inl h4
  ·exact .inr (c3M h4 h6)
 ·simp only [Bool.and_eq_true,decide_eq_true_eq] at h
  obtain ⟨⟨rfl,h1⟩,h2⟩:=h
  split at h2
  ·rename_i e hu;exact .isnil _ _ _ _ _ _ _ _ (a0H h1) hu (.inl ⟨rfl,rfl,_,rfl⟩)
  ·rename_i e1 e2 e3 hu;exact .isnil _ _ _ _ _ _ _ _ (a0H h1) hu (.inr (.inl ⟨rfl,rfl,_,_,_,rfl⟩))
  ·rename_i e hu;exact .isnil _ _ _ _ _ _ _ _ (a0H h1) hu (.inr (.inr ⟨rfl,rfl,_,rfl⟩))
  ·cases h2
 ·simp only [Bool.and_eq_true,decide_eq_true_eq] at h
  obtain ⟨rfl,h1⟩:=h
  exact .un _ _ _ _ (a0H h1)
 ·simp only [Bool.and_eq_true] at h
  obtain ⟨h1,h2⟩:=h
  split at h2
  ·rename_i k' k'' hd hs
   simp only [decide_eq_true_eq] at h2
   subst h2
   exact .conv _ _ _ _ _ _ (a0H h1) hd hs (by simp)
  ·cases h2
 ·simp only [Bool.and_eq_true,beq_iff_eq] at h
  obtain ⟨⟨rfl,h1⟩,h2⟩:=h
  rename_i id sh first cap first' cap'
  have:=MOp.mkf (S:=S) (G:=G) id sh first cap first'.toList cap'.toList (a6r h1) (a6r h2)
  simpa using this
 ·exact .mkmap _ _ _ _
 ·simp only [Bool.and_eq_true] at h
  obtain ⟨⟨⟨⟨h1,h2⟩,h3⟩,h4⟩,h5⟩:=h
  split at h5
  ·rename_i e he;exact .slice _ _ _ _ _ _ _ _ _ _ e (a0H h1) (a7n h2) (a7n h3) (a7n h4) (a4F he) (a5w h5)
  ·cases h5
 ·simp only [Bool.and_eq_true] at h
  obtain ⟨⟨⟨⟨h1,h2⟩,h3⟩,h4⟩,h5⟩:=h
  split at h5
  ·rename_i n' e he
   simp only [Bool.and_eq_true,beq_iff_eq] at h5
   obtain ⟨rfl,h6⟩:=h5
   exact .slArr _ _ _ _ _ _ _ _ _ _ _ e (a0H h1) (a7n h2) (a7n h3) (a7n h4) (b0W he) (a5w h6)
  ·cases h5
 ·simp only [Bool.and_eq_true] at h
  obtain ⟨h1,h2⟩:=h
  split at h2
  ·rename_i fs hfs
   split at h2
   ·rename_i f hf
    simp only [Bool.and_eq_true,beq_iff_eq] at h2
    obtain ⟨h3,h4⟩:=h2
    split at h4
    ·rename_i i hi;exact .faddr _ _ _ _ _ fs f (a0H h1) (b2X hfs) hf h3 ⟨i,hi,by simpa using h4⟩
    ·cases h4
   ·cases h2
  ·cases h2
 ·simp only [Bool.and_eq_true] at h
  obtain ⟨h1,h2⟩:=h
  split at h2
  ·rename_i fs hfs
   split at h2
   ·rename_i f hf
    simp only [Bool.and_eq_true,beq_iff_eq] at h2
    exact .field _ _ _ _ _ _ fs f (a0H h1) (b2X hfs) hf h2.1 (b0q h2.2)
   ·cases h2
  ·cases h2
 ·simp only [Bool.and_eq_true] at h
  obtain ⟨⟨h1,h2⟩,h3⟩:=h
  split at h3
  ·rename_i e he;exact .iaddr _ _ _ _ _ _ e (a0H h1) (a0H h2) (a4F he) (a5w h3)
  ·cases h3
 ·simp only [Bool.and_eq_true] at h
  obtain ⟨⟨h1,h2⟩,h3⟩:=h
  split at h3
  ·rename_i n e he
   simp only [Bool.and_eq_true,beq_iff_eq] at h3
   obtain ⟨rfl,h4⟩:=h3
   exact .iarr _ _ _ _ _ _ _ e (a0H h1) (a0H h2) (b0W he) (a5w h4)
  ·cases h3
 ·simp only [Bool.and_eq_true] at h
  obtain ⟨⟨h1,h2⟩,h3⟩:=h
  split at h3
  ·rename_i n e he
   simp only [Bool.and_eq_true,beq_iff_eq] at h3
   obtain ⟨⟨rfl,h4⟩,h5⟩:=h3
   exact .index _ _ _ _ _ _ _ _ e (a0H h1) (a0H h2) (b0W he) (a5w h4) (b0q h5)
  ·cases h3
 ·simp only [Bool.and_eq_true] at h
  exact .istr _ _ _ _ _ (a0H h.1.1) (a0H h.1.2) (b4z h.2)
 ·simp only [Bool.and_eq_true,beq_iff_eq] at h
  obtain ⟨⟨⟨rfl,h1⟩,h2⟩,h3⟩:=h
  split at h3
  ·rename_i k e he
   simp only [Bool.and_eq_true] at h3
   exact .lookup _ _ _ _ _ _ _ _ k e 20 (a0H h1) (a0H h2) (a5f he) (b5d h3.1) (a4o h3.2) (by omega)
  ·cases h3
 ·simp only [Bool.and_eq_true] at h
  obtain ⟨⟨⟨h1,h2⟩,h3⟩,h4⟩:=h
  split at h4
  ·rename_i k e he;exact .mupd _ _ _ _ _ _ _ _ k e 20 (a0H h1) (a0H h2) (a0H h3) (a5f he) (a4o h4) (by omega)
  ·cases h4
 ·simp only [Bool.and_eq_true] at h
  obtain ⟨⟨⟨h1,h2⟩,h3⟩,h4⟩:=h
  split at h4
  ·rename_i k e he;exact .ins _ _ _ _ _ _ _ _ k e 20 (a0H h1) (a0H h2) (a0H h3) (a5f he) (a4o h4) (by omega)
  ·cases h4
 ·exact .mkset _ _ _
 ·exact .kset _ _ _
 ·simp only [Bool.and_eq_true] at h
  obtain ⟨⟨h1,h2⟩,h3⟩:=h
  split at h3
  ·rename_i k e he
   simp only [Bool.and_eq_true] at h3
   exact .slook _ _ _ _ _ _ k e 20 (a0H h1) (a0H h2) (a5f he) (b5d h3.1) (a4o h3.2) (by omega)
  ·cases h3
 ·simp only [Bool.and_eq_true] at h
  obtain ⟨⟨⟨h1,h2⟩,h3⟩,h4⟩:=h
  obtain rfl:=b3f h3
  split at h4
  ·rename_i k e he;exact .sadd _ _ _ _ _ _ k e 20 (a0H h1) (a0H h2) (a5f he) (a4o h4) (by omega)
  ·cases h4
 ·simp only [Bool.and_eq_true] at h
  obtain ⟨⟨⟨h1,h2⟩,h3⟩,h4⟩:=h
  obtain rfl:=b3f h3
  split at h4
  ·rename_i k e he;exact .sins _ _ _ _ _ _ k e 20 (a0H h1) (a0H h2) (a5f he) (a4o h4) (by omega)
  ·cases h4
 ·simp only [Bool.and_eq_true] at h
  obtain ⟨h1,h2⟩:=h
  split at h2
  ·rename_i q he;exact .rng _ _ _ _ q.1 q.2 (a0H h1) (a5f he)
  ·cases h2
 ·simp only [Bool.and_eq_true,beq_iff_eq] at h
  obtain ⟨h1,rfl⟩:=h
  exact .ext _ _ _ (a0H h1)
 ·exact .nilchk _ _ (a0H h)
 ·rename_i b args ts
  split at h
  ·rename_i i j t ha hts
   have ha':args=#[.tmp j]:=Array.ext' ha
   have ht':ts=#[t]:=Array.ext' hts
   subst ha';subst ht'
   simp only [Bool.and_eq_true,beq_iff_eq] at h
   obtain ⟨rfl,h2⟩:=h
   split at h2
   ·rename_i e he;exact .lenP _ _ e (a4F he)
   ·cases h2
  ·rename_i k x x' t _ ha hts
   have ha':args=#[x']:=Array.ext' ha
   have ht':ts=#[t]:=Array.ext' hts
   subst ha';subst ht'
   simp only [Bool.and_eq_true] at h
   obtain ⟨h1,h2⟩:=h
   split at h2
   ·rename_i hu _;exact .len _ _ _ _ (a0H h1) (.inl ⟨rfl,hu⟩)
   ·rename_i hu _;exact .len _ _ _ _ (a0H h1) (.inr (.inl ⟨rfl,_,hu⟩))
   ·rename_i hu _;exact .len _ _ _ _ (a0H h1) (.inr (.inr ⟨rfl,_,_,hu⟩))
   ·cases h2
  ·rename_i n x' t ha hts
   have ha':args=#[x']:=Array.ext' ha
   have ht':ts=#[t]:=Array.ext' hts
   subst ha';subst ht'
   split at h
   ·rename_i m e hu
    have:n=m:=by simpa using h
    subst this
    exact .lenArr _ _ _ (.inl ⟨e,hu⟩)
   ·rename_i p hu
    split at h
    ·rename_i m e hp
     have:n=m:=by simpa using h
     subst this
     exact .lenArr _ _ _ (.inr ⟨p,e,hu,hp⟩)
    ·cases h
   ·cases h
  ·rename_i x xs x' xs' ha
   have ha':args=(x'::xs').toArray:=Array.ext' (by simpa using ha)
   subst ha'
   simp only [Bool.and_eq_true] at h
   exact .min _ _ _ _ _ (a0H h.1) (a6r h.2)
  ·rename_i x xs x' xs' ha
   have ha':args=(x'::xs').toArray:=Array.ext' (by simpa using ha)
   subst ha'
   simp only [Bool.and_eq_true] at h
   exact .max _ _ _ _ _ (a0H h.1) (a6r h.2)
  ·rename_i es x y x' y' t t2 ha hts
   have ha':args=#[x',y']:=Array.ext' ha
   have ht':ts=#[t,t2]:=Array.ext' hts
   subst ha';subst ht'
   simp only [Bool.and_eq_true] at h
   obtain ⟨⟨h1,h2⟩,h3⟩:=h
   obtain ⟨T⟩:=b3X h3
   exact .append _ _ _ _ _ _ _ (b2e h1) (a0H h2) T
  ·rename_i es x y x' y' t t2 ha hts
   have ha':args=#[x',y']:=Array.ext' ha
   have ht':ts=#[t,t2]:=Array.ext' hts
   subst ha';subst ht'
   simp only [Bool.and_eq_true] at h
   obtain ⟨⟨h1,h2⟩,h3⟩:=h
   obtain ⟨T⟩:=b3X h3
   exact .appendP _ _ _ _ _ _ _ (b2e h1) (a0H h2) T
  ·rename_i a0 es x y x' y' t t2 ha hts
   have ha':args=#[x',y']:=Array.ext' ha
   have ht':ts=#[t,t2]:=Array.ext' hts
   subst ha';subst ht'
   simp only [Bool.and_eq_true] at h
   obtain ⟨⟨h1,h2⟩,h3⟩:=h
   obtain ⟨T⟩:=b3X h3
   exact .appendM _ _ _ _ _ _ _ _ (a0H h1) (a0H h2) T
  ·rename_i es x y x' y' t t2 ha hts
   have ha':args=#[x',y']:=Array.ext' ha
   have ht':ts=#[t,t2]:=Array.ext' hts
   subst ha';subst ht'
   simp only [Bool.and_eq_true,decide_eq_true_eq] at h
   obtain ⟨⟨⟨h1,h2⟩,h3⟩,h4⟩:=h
   split at h4
   ·rename_i e he;exact .copy _ _ _ _ _ _ _ e (a0H h1) (a0H h2) (a4F he) (a5w h4) h3
   ·cases h4
  ·rename_i es z x x' t ha hts
   have ha':args=#[x']:=Array.ext' ha
   have ht':ts=#[t]:=Array.ext' hts
   subst ha';subst ht'
   simp only [Bool.and_eq_true,decide_eq_true_eq] at h
   obtain ⟨⟨h1,h3⟩,h4⟩:=h
   split at h4
   ·rename_i e he;exact .clear _ _ _ _ _ e (a0H h1) (a4F he) (b2w h4) h3
   ·cases h4
  ·cases h
 ·rename_i p f args f' args' ts
  simp only [Bool.and_eq_true,Bool.or_eq_true] at h
  obtain ⟨h1,h|⟨rfl,h⟩⟩:=h
  ·have:=MOp.call (S:=S) (G:=G) p f args f' args'.toList ts (a0H h1) (a6r h)
   simpa using this
  ·have:=MOp.callP (S:=S) (G:=G) f args f' args'.toList ts (a0H h1) (f1Z h)
   simpa using this
 ·cases h
variable (S) (G) in
def mopL:Op->Go.Op->Bool
 | .late o,o'=>o.plain&&mop S G o o'
 | o,o'=>mop S G o o'
theorem c1b {o:Op} {o':Go.Op} (h:mopL S G o o'=true):MOp S G o o':=by
 unfold mopL at h
 split at h
 ·simp only [Bool.and_eq_true] at h
  exact .late _ _ h.1 (b7U h.2)
 ·exact b7U h
end
end Go.Pm
namespace Go.Pm
section
variable (S:Seat) (G:List Nat) (nt:Nat)
def b6G (ops:Array Go.Oper) (o:Oper) (o':Go.Oper):Bool :=
  decide (o'.dst=o.dst)&&(match o.dst with|some d=>decide (d<nt)|none=>true)&&mopL S G o.op o'.op &&
  (match o.guard,o'.guard with
   | none,none=>true
   | some (s,b),some (j,b')=>b == b'&&decide ((ops[j]?).bind (·.dst)=some s)
   | _,_=>false)
def a8O (ops:Array Go.Oper):List Oper->List Go.Oper->Bool
 | [],[]=>true
 | o::os,o'::os'=>b6G S G nt ops o o'&&a8O ops os os'
 | _,_=>false
def f1z (A:List Al) (o:Oper) (o':Go.Oper):Bool:=match o.op,o'.op with
 | .call _ _ as,.call c=>(as.zip c.args.toList).all fun q=>match q with
  | (.pk i,.tmp j)=>i == j||A.any (fun e=>decide (e=(o.guard,i,j))||decide (e=(none,i,j)))
  | _=>true
 | _,_=>true
def f0g:List Al->List Oper->List Go.Oper->Bool
 | A,o::os,o'::os'=>f1z A o o'&&f0g (e9E A o) os os'
 | _,_,_=>true
def Op.e6Y:Op->Bool
 | .call _ _ as=>as.any Rand.e6Y
 | _=>false
def ancs:List Go.Oper->List (List Nat)->List (List Nat)
 | [],acc=>acc
 | o::os,acc=>ancs os (acc++[(binds o++(binds o).flatMap fun k=>acc.getD k []).eraseDups])
def b4g (ops:List Oper) (ops':List Go.Oper):Bool :=
 let an:=ancs ops' []
 (List.range ops.length).all (fun i=>match ops[i]? with|some o=>o.ix == i|none=>true) &&
 (List.range ops'.length).all (fun i=>match ops'[i]? with
  | some o=>(binds o).all (fun j=>decide (j<i))&&(an.getD i []).all fun j=>(binds o).contains j||(binds o).any fun k=>(an.getD k []).contains j
  | none=>true) &&
 (List.range ops.length).all (fun i=>(List.range i).all fun j=>(an.getD i []).contains j||(match ops[i]?,ops[j]? with
  | some a,some b=>b0h a b
  | _,_=>true))
def b4x (it:Nat) (o:Go.Oper):Bool:=(match o.op with | .next (.tmp i) false=>i == it|_=>false)&&o.guard.isNone
def b2N (it:Nat) (o:Go.Oper):Bool:=(match o.op with | .entry (.tmp i)=>i == it|_=>false)&&o.guard.isNone
def b1R (i:Nat) (o:Go.Oper):Bool:=(match o.op with | .extract (.tmp j) 0=>j == i|_=>false)&&o.guard.isNone
def b1o (keep:List Nat) (it dst n:Nat) (id:Nat):Code->Bool
  | .loop (.seq (.region _ ops3 false) (.seq (.cond (.tmp m) .skip (.exit id')) (.block _ (.seq (.region _ ops4 false) (.region _ ops5 false))))) =>
    (match ops3.toList,ops4.toList,ops5.toList with
     | [o0,o1],[a0,a1,a2,a3],[b0,b1,b2] =>
       (match o0.dst,o1.dst,a0.dst,a1.dst,a2.dst,b0.dst,b1.dst with
        | some nxt,some m',some pr,some ks,some bx,some u,some kv =>
          id' == id&&m' == m&&b4x it o0&&b1R nxt o1&&b2N it a0&&b1R pr a1 &&
          a8O S G nt #[a0,a1,a2,a3] [{ dst:=some bx,op:=.alloc 0 (List.replicate n (.int .i64 0)) },{ op:=.store n (.t bx) (.t ks) }] [a2,a3] &&
          a8O S G nt #[b0,b1,b2] [{ dst:=some u,op:=.mv (.t dst) },{ dst:=some kv,op:=.load (some n) (.t bx) },{ op:=.sadd n (.t u) (.t kv) }] [b0,b1,b2] &&
          C.a0v (List.replicate n (.int .i64 0))&&decide (0<n)&&decide ((it::dst::[nxt,m,pr,ks,bx,u,kv]).Nodup)&&decide (nxt<nt/\m<nt/\pr<nt/\ks<nt) &&
          keep.all (fun x=>decide (x ∉ [nxt,m,pr,ks,bx,u,kv]))
        | _,_,_,_,_,_,_=>false)
     | _,_,_=>false)
  | _=>false
def a4m:AC->AC
 | .frz _ a=>a4m a
 | .frzc _ a=>a4m a
 | a=>a
def mc:Bool->Code->AC->Bool
 | r,.scope y,a=>mc r y a
 | r,.seq (.label _) y,a=>mc r y a
 | r,.seq x y,a=>(match a4m a with
  | .seq a b=>mc r x a&&mc r y b
  | _=>false)
 | _,.skip,a=>(match a4m a with | .skip=>true|_=>false)
 | _,.label _,a=>(match a4m a with | .skip=>true|_=>false)
 | r,.cond c x y,a=>(match a4m a with
  | .cond c' a b=>mr S G c' c&&mc r x a&&mc r y b
  | _=>false)
 | r,.block id x,a=>(match a4m a with
  | .block id' a=>id == id'&&mc r x a
  | .union keep it dst n=>b1o S G nt keep it dst n id x
  | _=>false)
 | r,.loop x,a=>(match a4m a with
  | .loop _ a=>mc r x a
  | _=>false)
 | _,.exit id,a=>(match a4m a with | .exit id'=>id == id' | _=>false)
 | _,.ret,a=>(match a4m a with | .ret=>true|_=>false)
 | _,.region _ ops' d,a=>(match a4m a with
  | .region _ ops d' _=>d == d'&&a8O S G nt ops' ops ops'.toList&&(if d then b4g ops ops'.toList&&!(ops.any fun o=>o.op.e6Y) else !(ops.any fun o=>o.op.e6Y)||f0g [] ops ops'.toList)
  | .stuck=>true
  | _=>false)
 | r,.rangeFunc f' ps' x y,a=>(match a4m a with
  | .rfunc f ps a b=>!r&&mr S G f f'&&decide (ps=ps'.toList)&&ps.all (fun p=>decide (p<nt))&&mc true x a&&mc true y b
  | _=>false)
 | _,_,_=>false
def mres (P:Program):List (Nat × Option (Option Nat))->List ResultVar->Bool
 | [],[]=>true
 | (t,none)::rs,.tmp t'::rs'=>t == t'&&mres P rs rs'
 | (t,some n)::rs,.cell t' ty::rs'=>t == t'&&tsh P ty n&&mres P rs rs'
 | _,_=>false
def c0f (f:Fn) (fn:Func):Bool :=
 (match fn.body with|some c=>mc S G f.nt false c f.body|none=>false)&&fn.ntmps == f.nt&&decide (f.np<=f.nt)&&fn.name != "runtime.NumGoroutine"&&mres S.P f.res fn.results.toList
end
section
variable {S:Seat} {G:List Nat} {nt:Nat}
theorem b9k {ops:Array Go.Oper} {o:Oper} {o':Go.Oper} (h:b6G S G nt ops o o'=true):MOper S G nt ops o o':=by
 simp only [b6G,Bool.and_eq_true,decide_eq_true_eq] at h
 obtain ⟨⟨⟨h1,h2⟩,h3⟩,h4⟩:=h
 refine ⟨h1,fun d hd=>by rw [hd] at h2;exact of_decide_eq_true h2,c1b h3,?_⟩
 cases hg:o.guard with
 | none =>
  cases hg':o'.guard with
  | none=>trivial
  | some q=>rw [hg,hg'] at h4;cases h4
 | some p =>
  obtain ⟨s,b⟩:=p
  cases hg':o'.guard with
  | none=>rw [hg,hg'] at h4;cases h4
  | some q =>
   obtain ⟨j,b'⟩:=q
   rw [hg,hg'] at h4
   simp only [Bool.and_eq_true,beq_iff_eq,decide_eq_true_eq] at h4
   exact h4
theorem a7m {ops:Array Go.Oper}:∀ {os:List Oper} {os':List Go.Oper},a8O S G nt ops os os'=true->a4M S G nt ops os os'
 | [],[],_=>trivial
 | o::os,o'::os',h=>by
  simp only [a8O,Bool.and_eq_true] at h
  exact ⟨b9k h.1,a7m h.2⟩
 | [],_::_,h=>by cases h
 | _::_,[],h=>by cases h
theorem f2b {o:Op} {o':Go.Op} (h:o.e6Y=false) {i j:Nat} (hp:e8v o o' i j):False:=by
 obtain ⟨p,f,as,f',as',ts,k,rfl,rfl,h1,h2⟩:=hp
 simp only [Op.e6Y] at h
 have:=List.any_eq_false.1 h _ (List.mem_of_getElem? h1)
 simp [Rand.e6Y] at this
theorem e9R:∀ {A:List Al} {os:List Oper} {os':List Go.Oper},os.any (fun o=>o.op.e6Y)=false->AlOk A os os'
 | _,o::os,o'::os',h=>by
  simp only [List.any_cons,Bool.or_eq_false_iff] at h
  exact ⟨fun i j hp=>(f2b h.1 hp).elim,e9R h.2⟩
 | _,[],[],_=>trivial
 | _,[],_::_,_=>trivial
 | _,_::_,[],_=>trivial
theorem f2u {os:List Oper} {os':List Go.Oper} (h:os.any (fun o=>o.op.e6Y)=false):AlD os os':=fun k o o' h1 _ i j hp =>
 (f2b (by simpa using List.any_eq_false.1 h o (List.mem_of_getElem? h1)) hp).elim
theorem f2P {A:List Al} {o:Oper} {o':Go.Oper} (h:f1z A o o'=true):∀ i j,e8v o.op o'.op i j->i=j\/(o.guard,i,j)∈A\/(none,i,j)∈A:=by
 rintro i j ⟨p,f,as,f',as',ts,k,ho,ho',h1,h2⟩
 simp only [f1z,ho,ho',List.all_eq_true] at h
 have hz:(as.zip as'.toList)[k]?=some (.pk i,.tmp j):=by
  rw [List.getElem?_zip_eq_some]
  exact ⟨h1,by rw [Array.getElem?_toList];exact h2⟩
 have:=h _ (List.mem_of_getElem? hz)
 simp only [Bool.or_eq_true,beq_iff_eq,List.any_eq_true,decide_eq_true_eq] at this
 rcases this with h|⟨e,he,h|h⟩
 ·exact .inl h
 ·exact .inr (.inl (h ▸ he))
 ·exact .inr (.inr (h ▸ he))
theorem f0l:∀ {A:List Al} {os:List Oper} {os':List Go.Oper},f0g A os os'=true->AlOk A os os'
 | _,o::os,o'::os',h=>by
  simp only [f0g,Bool.and_eq_true] at h
  exact ⟨f2P h.1,f0l h.2⟩
 | _,[],[],_=>trivial
 | _,[],_::_,_=>trivial
 | _,_::_,[],_=>trivial
theorem b7r {ops:List Oper} {ops':List Go.Oper} (h:b4g ops ops'=true):DrawOk ops ops':=by
 simp only [b4g,Bool.and_eq_true,List.all_eq_true,List.mem_range] at h
 obtain ⟨⟨h1,h2⟩,h3⟩:=h
 have g2:∀ (i:Nat) o,ops'[i]?=some o->(∀ j∈binds o,j<i)/\∀ j∈(ancs ops' []).getD i [],j∈binds o\/∃ k∈binds o,j∈(ancs ops' []).getD k []:=fun i o hi=>by
  have:=h2 i (List.getElem?_eq_some_iff.1 hi).1
  rw [hi] at this
  simp only [Bool.and_eq_true,List.all_eq_true,decide_eq_true_eq,Bool.or_eq_true,List.contains_iff_mem,List.any_eq_true] at this
  exact this
 refine ⟨fun i o hi=>?_,fun i o hi=>(g2 i o hi).1,fun i=>(ancs ops' []).getD i [],fun i o hi=>(g2 i o hi).2,fun i j a b hji ha hb hn=>?_⟩
 ·have:=h1 i (List.getElem?_eq_some_iff.1 hi).1
  rw [hi] at this
  simpa using this
 ·have:=h3 i (List.getElem?_eq_some_iff.1 ha).1 j hji
  rw [ha,hb] at this
  simp only [Bool.or_eq_true,List.contains_iff_mem] at this
  exact this.resolve_left hn
theorem a2N {r:Bool} {y:Code}:∀ {a:AC},MC S G nt r (a4m a) y->MC S G nt r a y
 | .frz i a,h=>.frz _ i a y (a2N (a:=a) h)
 | .frzc i a,h=>.frzc _ i a y (a2N (a:=a) h)
 | .skip,h | .stuck,h | .union _ _ _ _,h | .region _ _ _ _,h | .seq _ _,h | .cond _ _ _,h | .block _ _,h | .loop _ _,h | .rfunc _ _ _ _,h | .exit _,h | .scope _,h | .ret,h=>h
theorem b7E {it:Nat} {o:Go.Oper} (h:b4x it o=true):o.op=.next (.tmp it) false/\o.guard=none:=by
 simp only [b4x,Bool.and_eq_true,Option.isNone_iff_eq_none] at h
 obtain ⟨h1,h2⟩:=h
 split at h1
 ·rename_i i ho;rw [ho,beq_iff_eq.1 h1];exact ⟨rfl,h2⟩
 ·cases h1
theorem b6v {it:Nat} {o:Go.Oper} (h:b2N it o=true):o.op=.entry (.tmp it)/\o.guard=none:=by
 simp only [b2N,Bool.and_eq_true,Option.isNone_iff_eq_none] at h
 obtain ⟨h1,h2⟩:=h
 split at h1
 ·rename_i i ho;rw [ho,beq_iff_eq.1 h1];exact ⟨rfl,h2⟩
 ·cases h1
theorem b3e {it:Nat} {o:Go.Oper} (h:b1R it o=true):o.op=.extract (.tmp it) 0/\o.guard=none:=by
 simp only [b1R,Bool.and_eq_true,Option.isNone_iff_eq_none] at h
 obtain ⟨h1,h2⟩:=h
 split at h1
 ·rename_i i ho;rw [ho,beq_iff_eq.1 h1];exact ⟨rfl,h2⟩
 ·cases h1
theorem b0o {ops:Array Go.Oper} {l:List Go.Oper} (h:ops.toList=l):ops=l.toArray:=by
 subst h;simp
theorem b5F {r:Bool} {keep:List Nat} {it dst n id:Nat} {x:Code} (h:b1o S G nt keep it dst n id x=true):MC S G nt r (.union keep it dst n) (.block id x):=by
 unfold b1o at h
 split at h
 ·split at h
  ·rename_i e3 e4 e5
   split at h
   ·rename_i d0 d1 d2 d3 d4 d5 d6
    simp only [Bool.and_eq_true,beq_iff_eq,decide_eq_true_eq,List.all_eq_true] at h
    obtain ⟨⟨⟨⟨⟨⟨⟨⟨⟨⟨⟨⟨rfl,rfl⟩,h0⟩,h1⟩,h2⟩,h3⟩,h4⟩,h5⟩,hp⟩,hn⟩,nd⟩,lt⟩,kp⟩:=h
    rw [b0o e3,b0o e4,b0o e5]
    obtain ⟨p0,g0⟩:=b7E h0
    obtain ⟨p1,g1⟩:=b3e h1
    obtain ⟨p2,g2⟩:=b6v h2
    obtain ⟨p3,g3⟩:=b3e h3
    exact .union r keep it dst n _ _ _ _ _ _ _ _ _ _ _ _ (List.replicate n (.int .i64 0)) _ _ _ _ _ _ _ _ _
     ⟨⟨p0,d0,g0⟩,⟨p1,d1,g1⟩,⟨p2,d2,g2⟩,⟨p3,d3,g3⟩,a7m h4,a7m h5,by simp,hp,hn,nd,lt,kp⟩
   ·cases h
  ·cases h
 ·cases h
theorem a6q:∀ (y:Code) {r:Bool} {a:AC},mc S G nt r y a=true->MC S G nt r a y
 | .scope y,r,a,h=>.scope _ _ _ (a6q y (by simpa only [mc] using h))
 | .seq (.label l) y,r,a,h=>.seqLabel _ l _ _ (a6q y (by simpa only [mc] using h))
 | .skip,r,a,h=>by
  simp only [mc] at h
  apply a2N
  split at h
  ·rename_i h1;rw [h1];exact .skip _
  ·cases h
 | .label l,r,a,h=>by
  simp only [mc] at h
  apply a2N
  split at h
  ·rename_i h1;rw [h1];exact .label _ _
  ·cases h
 | .cond c x y,r,a,h=>by
  simp only [mc] at h
  apply a2N
  split at h
  ·rename_i h1
   simp only [Bool.and_eq_true] at h
   rw [h1];exact .cond _ _ _ _ _ _ _ (a0H h.1.1) (a6q x h.1.2) (a6q y h.2)
  ·cases h
 | .block id x,r,a,h=>by
  simp only [mc] at h
  apply a2N
  split at h
  ·rename_i h1
   simp only [Bool.and_eq_true,beq_iff_eq] at h
   obtain ⟨rfl,h2⟩:=h
   rw [h1];exact .block _ _ _ _ (a6q x h2)
  ·rename_i h1
   rw [h1];exact b5F h
  ·cases h
 | .loop x,r,a,h=>by
  simp only [mc] at h
  apply a2N
  split at h
  ·rename_i h1
   rw [h1];exact .loop _ _ _ _ (a6q x h)
  ·cases h
 | .exit id,r,a,h=>by
  simp only [mc] at h
  apply a2N
  split at h
  ·rename_i h1
   have:=beq_iff_eq.1 h
   subst this
   rw [h1];exact .exit _ _
  ·cases h
 | .ret,r,a,h=>by
  simp only [mc] at h
  apply a2N
  split at h
  ·rename_i h1;rw [h1];exact .ret _
  ·cases h
 | .region id ops' d,r,a,h=>by
  simp only [mc] at h
  apply a2N
  split at h
  ·rename_i h1
   simp only [Bool.and_eq_true,beq_iff_eq] at h
   obtain ⟨⟨rfl,h2⟩,h3⟩:=h
   rw [h1]
   cases d with
   | false =>
    refine .region _ _ _ _ _ _ (a7m h2) ?_
    simp only [Bool.false_eq_true,if_false,Bool.or_eq_true,Bool.not_eq_true'] at h3
    rcases h3 with h3|h3
    ·exact e9R h3
    ·exact f0l h3
   | true =>
    simp only [if_true,Bool.and_eq_true,Bool.not_eq_true'] at h3
    exact .draw _ _ _ _ _ _ (a7m h2) (b7r h3.1) (f2u h3.2)
  ·rename_i h1
   rw [h1];exact .stuck _ _
  ·cases h
 | .rangeFunc f' ps' x y,r,a,h=>by
  simp only [mc] at h
  apply a2N
  split at h
  ·rename_i h1
   simp only [Bool.and_eq_true,decide_eq_true_eq,Bool.not_eq_true',List.all_eq_true] at h
   obtain ⟨⟨⟨⟨⟨rfl,h2⟩,rfl⟩,h4⟩,h5⟩,h6⟩:=h
   rw [h1]
   have:=MC.rfunc (S:=S) (G:=G) (nt:=nt) _ f' ps'.toList _ _ x y (a0H h2) (a6q x h5) (a6q y h6) h4
   simpa using this
  ·cases h
 | .goto l,r,a,h=>by simp [mc] at h
 | .refuse w,r,a,h=>by simp [mc] at h
 | .seq .skip y,r,a,h | .seq (.region _ _ _) y,r,a,h | .seq (.seq _ _) y,r,a,h | .seq (.cond _ _ _) y,r,a,h | .seq (.block _ _) y,r,a,h | .seq (.loop _) y,r,a,h | .seq (.rangeFunc _ _ _ _) y,r,a,h | .seq (.exit _) y,r,a,h
 | .seq (.scope _) y,r,a,h | .seq (.goto _) y,r,a,h | .seq .ret y,r,a,h | .seq (.refuse _) y,r,a,h=>by
  unfold mc at h
  apply a2N
  split at h
  ·rename_i h1
   simp only [Bool.and_eq_true] at h
   rw [h1];exact .seq _ _ _ _ _ (a6q _ h.1) (a6q y h.2)
  ·cases h
theorem b2S {P:Program}:∀ {rs:List (Nat × Option (Option Nat))} {rs':List ResultVar},mres P rs rs'=true->MRes P rs rs'
 | [],[],_=>trivial
 | (t,none)::rs,.tmp t'::rs',h=>by
  simp only [mres,Bool.and_eq_true,beq_iff_eq] at h
  exact ⟨h.1,b2S h.2⟩
 | (t,some n)::rs,.cell t' ty::rs',h=>by
  simp only [mres,Bool.and_eq_true,beq_iff_eq] at h
  exact ⟨h.1.1,b0q h.1.2,b2S h.2⟩
 | [],_::_,h=>by cases h
 | (_,none)::_,[],h=>by cases h
 | (_,some _)::_,[],h=>by cases h
 | (_,none)::_,.cell _ _::_,h=>by cases h
 | (_,some _)::_,.tmp _::_,h=>by cases h
theorem a0w {id:Nat} {f:Fn} {fn:Func} (hf:S.P.funcs[S.fm id]?=some fn) (h:c0f S G f fn=true):FnOk S G id f:=by
 simp only [c0f,Bool.and_eq_true,beq_iff_eq,decide_eq_true_eq,bne_iff_ne,ne_eq] at h
 obtain ⟨⟨⟨⟨h1,h2⟩,h3⟩,h4⟩,h5⟩:=h
 split at h1
 ·rename_i c hc
  exact ⟨fn,c,hf,hc,h4,h2,a6q c h1,h3,b2S h5⟩
 ·cases h1
end
end Go.Pm
namespace Go.Pm
open Go.ChangeShapes Go.WideShapes Go.ChangeAt Go.RowKit
inductive T where
 | int (k:IntKind)
 | bool
 | str
 | sl (es:Nat) (e:T)
 | st (ts:List T)
mutual
def T.size:T->Nat
 | .st ts=>T.a6t ts
 | _=>1
def T.a6t:List T->Nat
 | []=>0
 | t::ts=>T.size t+T.a6t ts
end
mutual
def T.flat:T->Bool
 | .sl _ _=>false
 | .st ts=>T.b0x ts
 | _=>true
def T.b0x:List T->Bool
 | []=>true
 | t::ts=>T.flat t&&T.b0x ts
end
mutual
def T.has:T->List C->Prop
 | .int k,cs=>∃ n,cs=[.int k n]/\(Lit.int k n).wf=true
 | .bool,cs=>∃ b,cs=[.bool b]
 | .str,cs=>∃ s,cs=[.str s]
 | .sl es e,cs=>cs=[.sl .nil es []]\/∃ k l,cs=[.sl k es l]/\k≠.nil/\l.length<=maxLen/\∀ x∈l,T.has e x
 | .st ts,cs=>T.hasL ts cs
def T.hasL:List T->List C->Prop
 | [],cs=>cs=[]
 | t::ts,cs=>∃ a b,cs=a++b/\T.has t a/\T.hasL ts b
end
def T.hasV (t:T) (v:V):Prop :=
 match t with
 | .st ts=>∃ cl,v=.agg cl/\T.hasL ts cl
 | t=>∃ c,v=.sc c/\T.has t [c]
def a6Z:List T->List V->Prop
 | [],vs=>vs=[]
 | t::ts,vs=>∃ v r,vs=v::r/\t.hasV v/\a6Z ts r
mutual
theorem b5O:∀ (t:T) (cs:List C),t.has cs->cs.length=t.size
 | .int k,cs,h=>by simp only [T.has] at h;obtain ⟨n,rfl,_⟩:=h;rfl
 | .bool,cs,h=>by simp only [T.has] at h;obtain ⟨n,rfl⟩:=h;rfl
 | .str,cs,h=>by simp only [T.has] at h;obtain ⟨n,rfl⟩:=h;rfl
 | .sl es e,cs,h=>by simp only [T.has] at h;rcases h with rfl|⟨k,l,rfl,_⟩<;>rfl
 | .st ts,cs,h=>by simp only [T.has] at h;simp only [T.size];exact b4t ts cs h
theorem b4t:∀ (ts:List T) (cs:List C),T.hasL ts cs->cs.length=T.a6t ts
 | [],cs,h=>by simp only [T.hasL] at h;subst h;rfl
 | t::ts,cs,h=>by
  simp only [T.hasL] at h
  obtain ⟨a,b,rfl,ha,hb⟩:=h
  rw [List.length_append,b5O t a ha,b4t ts b hb];rfl
end
theorem b4P (a b:List C):C.a0v (a++b)=(C.a0v a&&C.a0v b):=by
 induction a with
 | nil=>simp [C.a0v]
 | cons x xs ih=>simp [C.a0v,ih,Bool.and_assoc]
mutual
theorem b4u:∀ (t:T) (cs:List C),t.has cs->C.a0v cs=true
 | .int k,cs,h=>by simp only [T.has] at h;obtain ⟨n,rfl,_⟩:=h;rfl
 | .bool,cs,h=>by simp only [T.has] at h;obtain ⟨n,rfl⟩:=h;rfl
 | .str,cs,h=>by simp only [T.has] at h;obtain ⟨n,rfl⟩:=h;rfl
 | .sl es e,cs,h=>by simp only [T.has] at h;rcases h with rfl|⟨k,l,rfl,_⟩<;>rfl
 | .st ts,cs,h=>by simp only [T.has] at h;exact b3c ts cs h
theorem b3c:∀ (ts:List T) (cs:List C),T.hasL ts cs->C.a0v cs=true
 | [],cs,h=>by simp only [T.hasL] at h;subst h;rfl
 | t::ts,cs,h=>by
  simp only [T.hasL] at h
  obtain ⟨a,b,rfl,ha,hb⟩:=h
  rw [b4P,b4u t a ha,b3c ts b hb];rfl
end
section
variable (P:Program)
def a2V (f:TypeId->T->Bool):Nat->List Field->List T->Bool
 | _,[],[]=>true
 | off,x::xs,t::ts=>x.offset == off&&P.cellsOf x.type == t.size&&f x.type t&&a2V f (off+t.size) xs ts
 | _,_,_=>false
def tyIs:Nat->TypeId->T->Bool
 | 0,_,_=>false
 | d+1,t,sh=>P.cellsOf t == sh.size&&(match P.underlying t,sh with
  | some (.int k),.int k'=>decide (k=k')
  | some .bool,.bool=>true
  | some .string,.str=>true
  | some (.slice e),.sl es e'=>P.cellsOf e == es&&e'.size == es&&decide (0<es)&&e'.flat&&tyIs d e e'
  | some (.struct fs),.st ts=>a2V P (tyIs d) 0 fs.toList ts
  | some (.array n e),.st ts=>ts.length == n&&ts.all fun x=>P.cellsOf e == x.size&&tyIs d e x
  | _,_=>false)
def a6V (d:Nat):List TypeId->List T->Bool
 | [],[]=>true
 | t::ts,x::xs=>tyIs P d t x&&a6V d ts xs
 | _,_=>false
end
def Cls (S:Seat) (g:Gh) (cl:List C) (cs:List Value):Prop:=cl.length=cs.length/\∀ (j:Nat) c v,cl[j]?=some c->cs[j]?=some v->RC S g c v
theorem Cls.append {S:Seat} {g:Gh} {a b:List C} {x y:List Value} (h:Cls S g a x) (k:Cls S g b y):Cls S g (a++b) (x++y):=by
 refine ⟨by simp [h.1,k.1],fun j c v hc hv=>?_⟩
 by_cases hj:j<a.length
 ·rw [List.getElem?_append_left hj] at hc
  rw [List.getElem?_append_left (by rw [← h.1];exact hj)] at hv
  exact h.2 j c v hc hv
 ·rw [List.getElem?_append_right (by omega)] at hc
  rw [List.getElem?_append_right (by rw [← h.1];omega), ← h.1] at hv
  exact k.2 _ c v hc hv
theorem Cls.one {S:Seat} {g:Gh} {c:C} {v:Value} (h:RC S g c v):Cls S g [c] [v] :=
 ⟨rfl,fun j c' v' a b=>by
  rcases j with _|j
  ·simp at a b;subst a;subst b;exact h
  ·simp at a⟩
section
variable {H:Type} {enc:TypeId × Value->H} {S:Seat} {g:Gh} {w:World} {base:Nat} {sp:Nat->Bool} {held:Bool}
def b0v (cs:List Value):Prop:=∀ (j:Nat) (a:Addr) n c,cs[j]?=some (.slice (some a) n c)->a.spot=none
theorem b0I {d:Nat} (ih:∀ (t:TypeId) (sh:T) (fuel:Nat) (cs:List Value) x,tyIs S.P d t sh=true->DataW.trod enc S.P w base sp held fuel t cs=some x->(sh.flat=false->b0v cs)->∃ cl,sh.has cl/\Cls S g cl cs) {fuel:Nat} {cs:List Value} :
 ∀ (fs:List Field) (ts:List T) (off:Nat),a2V S.P (tyIs S.P d) off fs ts=true->cs.length=off+T.a6t ts->(T.b0x ts=false->b0v cs) →
  (∀ f∈fs,∃ x,DataW.trod enc S.P w base sp held fuel f.type ((cs.drop f.offset).take (S.P.cellsOf f.type))=some x)->∃ cl,T.hasL ts cl/\Cls S g cl (cs.drop off)
 | [],[],off,_,hl,_,_=>⟨[],rfl,by simp only [T.a6t,Nat.add_zero] at hl;simp [← hl],fun j c v a=>by simp at a⟩
 | f::fs,t::ts,off,h,hl,hs,hx=>by
  simp only [a2V,Bool.and_eq_true,beq_iff_eq] at h
  obtain ⟨⟨⟨h1,h2⟩,h3⟩,h4⟩:=h
  obtain ⟨x,hx1⟩:=hx f (by simp)
  rw [h1,h2] at hx1
  simp only [T.a6t] at hl
  simp only [T.b0x,Bool.and_eq_false_iff] at hs
  obtain ⟨a,ha,hca⟩:=ih f.type t fuel _ x h3 hx1 (fun hf j ad n c hj=>by
   rw [List.getElem?_take] at hj
   split at hj
   ·rw [List.getElem?_drop] at hj;exact hs (.inl hf) _ ad n c hj
   ·cases hj)
  obtain ⟨b,hb,hcb⟩:=b0I ih fs ts (off+t.size) h4 (by omega) (fun hf=>hs (.inr hf)) (fun y hy=>hx y (by simp [hy]))
  refine ⟨a++b,by simp only [T.hasL];exact ⟨a,b,rfl,ha,hb⟩,?_⟩
  have:=hca.append hcb
  rwa [← List.drop_drop,List.take_append_drop] at this
 | [],_::_,_,h,_,_,_=>by simp [a2V] at h
 | _::_,[],_,h,_,_,_=>by simp [a2V] at h
theorem b1D {d:Nat} {e:TypeId} (ih:∀ (t:TypeId) (sh:T) (fuel:Nat) (cs:List Value) x,tyIs S.P d t sh=true->DataW.trod enc S.P w base sp held fuel t cs=some x->(sh.flat=false->b0v cs)->∃ cl,sh.has cl/\Cls S g cl cs) {fuel:Nat} {cs:List Value} :
 ∀ (ts:List T) (n:Nat),(∀ x∈ts,S.P.cellsOf e=x.size/\tyIs S.P d e x=true)->cs.length=n*S.P.cellsOf e+T.a6t ts->(T.b0x ts=false->b0v cs) →
  (∀ i,n<=i->i<n+ts.length->∃ x,DataW.trod enc S.P w base sp held fuel e ((cs.drop (i*S.P.cellsOf e)).take (S.P.cellsOf e))=some x)->∃ cl,T.hasL ts cl/\Cls S g cl (cs.drop (n*S.P.cellsOf e))
 | [],n,_,hl,_,_=>⟨[],rfl,by simp only [T.a6t,Nat.add_zero] at hl;simp [← hl],fun j c v a=>by simp at a⟩
 | t::ts,n,h,hl,hs,hx=>by
  obtain ⟨h2,h3⟩:=h t (by simp)
  obtain ⟨x,hx1⟩:=hx n (Nat.le_refl _) (by simp)
  simp only [T.a6t] at hl
  simp only [T.b0x,Bool.and_eq_false_iff] at hs
  obtain ⟨a,ha,hca⟩:=ih e t fuel _ x h3 hx1 (fun hf j ad m c hj=>by
   rw [List.getElem?_take] at hj
   split at hj
   ·rw [List.getElem?_drop] at hj;exact hs (.inl hf) _ ad m c hj
   ·cases hj)
  obtain ⟨b,hb,hcb⟩:=b1D ih ts (n+1) (fun y hy=>h y (by simp [hy])) (by rw [Nat.add_mul,Nat.one_mul];omega) (fun hf=>hs (.inr hf)) (fun i h1 h2=>hx i (by omega) (by simp;omega))
  refine ⟨a++b,by simp only [T.hasL];exact ⟨a,b,rfl,ha,hb⟩,?_⟩
  have:=hca.append hcb
  rw [Nat.add_mul,Nat.one_mul, ← List.drop_drop] at this
  rwa [List.take_append_drop] at this
theorem a3q (hM:∀ b o,g.M b o=w.cell? ⟨b,o,none⟩):∀ (d:Nat) (t:TypeId) (sh:T) (fuel:Nat) (cs:List Value) x,tyIs S.P d t sh=true->DataW.trod enc S.P w base sp held fuel t cs=some x->(sh.flat=false->b0v cs) →
 ∃ cl,sh.has cl/\Cls S g cl cs
 | 0,_,_,_,_,_,h,_,_=>by simp [tyIs] at h
 | d+1,t,sh,fuel,cs,x,h,hx,hs=>by
  simp only [tyIs,Bool.and_eq_true,beq_iff_eq] at h
  obtain ⟨hsz,h⟩:=h
  split at h
  ·rename_i k k' hu
   have:=of_decide_eq_true h
   subst this
   obtain ⟨n,rfl,_,hw⟩:=DataW.trod_int hu hx
   exact ⟨[.int k n],by simp only [T.has];exact ⟨n,rfl,hw⟩,.one (.int k n)⟩
  ·rename_i hu
   obtain ⟨b,rfl,_⟩:=DataW.trod_bool hu hx
   exact ⟨[.bool b],by simp only [T.has];exact ⟨b,rfl⟩,.one (.bool b)⟩
  ·rename_i hu
   obtain ⟨s,rfl,_⟩:=DataW.trod_string hu hx
   exact ⟨[.str s],by simp only [T.has];exact ⟨s,rfl⟩,.one (.str s)⟩
  ·rename_i e es e' hu
   simp only [Bool.and_eq_true,beq_iff_eq,decide_eq_true_eq] at h
   obtain ⟨⟨⟨⟨h1,h2⟩,h3⟩,h4⟩,h5⟩:=h
   rcases DataW.trod_slice hu hx with ⟨rfl,_⟩|⟨a,len,cap,elems,rest,n,_,rfl,_,hb,hl,hm,hlen,hel,_,_⟩
   ·exact ⟨[.sl .nil es []],by simp only [T.has];exact .inl trivial,.one (.slNil es)⟩
   ·have hspot:=hs rfl 0 a len cap rfl
    obtain ⟨b,off,spot⟩:=a
    simp only at hspot
    subst hspot
    have each:∀ i,∃ cl,i<len->e'.has cl/\∃ cs',w.cells? base (Addr.add ⟨b,off,none⟩ (i*es)) es=some cs'/\Cls S g cl cs':=fun i=>by
     by_cases hi:i<len
     ·have h0:=hel i hi
      rw [h1] at h0
      rw [List.getElem?_eq_getElem (by omega)] at h0
      obtain ⟨cs',hc,ht⟩:=Option.bind_eq_some_iff.1 h0
      obtain ⟨cl,hcl,hcs⟩:=a3q hM d e e' n cs' _ h5 ht (fun hf=>by rw [h4] at hf;cases hf)
      exact ⟨cl,fun _=>⟨hcl,cs',hc,hcs⟩⟩
     ·exact ⟨[],fun hh=>absurd hh hi⟩
    obtain ⟨F,hF⟩:=Classical.axiomOfChoice each
    have hget:∀ (i:Nat) (x:List C),((List.range len).map F)[i]?=some x->i<len/\x=F i:=fun i x hi=>by
     rw [List.getElem?_map] at hi
     by_cases hil:i<len
     ·rw [List.getElem?_range hil] at hi
      simp at hi
      exact ⟨hil,hi.symm⟩
     ·rw [List.getElem?_eq_none (by simpa using hil)] at hi
      simp at hi
    have hlenF:∀ i,i<len->(F i).length=es:=fun i hi=>by rw [b5O _ _ (hF i hi).1,h2]
    refine ⟨[.sl (if cap=len then .full else .shared) es ((List.range len).map F)],?_,.one ?_⟩
    ·simp only [T.has]
     refine .inr ⟨_,_,rfl,by split<;>simp,by simp;omega,fun x hx=>?_⟩
     obtain ⟨i,hi,rfl⟩:=List.mem_map.1 hx
     exact (hF i (by simpa using hi)).1
    ·have key:=RC.sl (S:=S) (g:=g) (if cap=len then SK.full else SK.shared) es ((List.range len).map F) b off cap (fun i j=>(w.cell? ⟨b,off+i*es+j,none⟩).getD undef) (by split<;>simp)
      (fun hk=>by
       simp only [List.length_map,List.length_range]
       by_cases hcl:cap=len
       ·exact hcl
       ·rw [if_neg hcl] at hk;cases hk) (by simpa using hl)
      (fun i x hi=>by obtain ⟨hi2,rfl⟩:=hget i x hi;exact hlenF i hi2) (fun i x hi=>by obtain ⟨hi2,rfl⟩:=hget i x hi;exact b4u _ _ (hF i hi2).1)
      (fun i x j hi hj=>by
       obtain ⟨hi2,rfl⟩:=hget i x hi
       obtain ⟨_,cs',hc,hcs⟩:=hF i hi2
       obtain ⟨_,hl',hc'⟩:=World.cells?_some hc
       have:=hc' j hj
       rw [Addr.a2h,Addr.a2h] at this
       rw [hM,this,List.getElem?_eq_getElem (by omega)];rfl)
      (fun i x j c hi hj=>by
       obtain ⟨hi2,rfl⟩:=hget i x hi
       obtain ⟨_,cs',hc,hcs⟩:=hF i hi2
       obtain ⟨_,hl',hc'⟩:=World.cells?_some hc
       have hjl:j<es:=by rw [← hlenF i hi2];exact (List.getElem?_eq_some_iff.1 hj).1
       have:=hc' j hjl
       rw [Addr.a2h,Addr.a2h] at this
       rw [this]
       have h6:cs'[j]?=some (cs'[j]'(by omega)):=List.getElem?_eq_getElem _
       rw [h6]
       exact hcs.2 j c _ hj h6)
     simpa using key
  ·rename_i fs ts hu
   obtain ⟨xs,n,_,_,hcl,hxl,hf⟩:=DataW.trod_struct hu hx
   simp only [T.flat] at hs
   simp only [T.size] at hsz
   obtain ⟨cl,h1,h2⟩:=b0I (S:=S) (g:=g) (fun t sh fuel cs x=>a3q hM d t sh fuel cs x) (fuel:=n) (cs:=cs) fs.toList ts 0 h (by omega) hs (fun f hfm=>by
    obtain ⟨i,hi⟩:=List.getElem?_of_mem hfm
    have hi':i<xs.length:=by rw [hxl];have:=(List.getElem?_eq_some_iff.1 hi).1;simpa using this
    have:=hf i f (by simpa using hi)
    rw [List.getElem?_eq_getElem hi'] at this
    exact ⟨_,this⟩)
   exact ⟨cl,by simp only [T.has];exact h1,by simpa using h2⟩
  ·rename_i n e ts hu
   simp only [Bool.and_eq_true,beq_iff_eq,List.all_eq_true] at h
   obtain ⟨xs,m,_,_,hcl,hxl,hf⟩:=DataW.trod_array hu hx
   simp only [T.flat] at hs
   simp only [T.size] at hsz
   obtain ⟨cl,h1,h2⟩:=b1D (S:=S) (g:=g) (e:=e) (fun t sh fuel cs x=>a3q hM d t sh fuel cs x) (fuel:=m) (cs:=cs) ts 0 h.2 (by omega) hs (fun i _ hi=>by
    have hi':i<n:=by omega
    have:=hf i hi'
    rw [List.getElem?_eq_getElem (by omega)] at this
    exact ⟨_,this⟩)
   exact ⟨cl,by simp only [T.has];exact h1,by simpa using h2⟩
  ·cases h
theorem b6m {P:Program} {u:TypeId} {a:Addr} {n c:Nat} (h:Cell.okWide P w .any base u (.slice (some a) n c)):a.spot=none:=by
 unfold Cell.okWide at h
 cases hu:P.underlying u with
 | none=>simp [hu,Cell.ok] at h
 | some d =>
  cases d<;>simp [hu,Cell.ok] at h
  exact h.2.2.2.1
theorem b6N (hM:∀ b o,g.M b o=w.cell? ⟨b,o,none⟩) {d:Nat} {t:TypeId} {sh:T} {v:Value} {x:DataW H} {ps:List MemPlace} (h:tyIs S.P d t sh=true) (hx:DataW.Trod enc S.P w base sp held t v x ps)
 (hok:Value.okWide S.P w .any base t v):∃ y,sh.hasV y/\RV S g y v:=by
 obtain ⟨fuel,hx⟩:=hx
 have agg:(∃ fs,S.P.underlying t=some (.struct fs))\/(∃ n e,S.P.underlying t=some (.array n e))->∃ cs,v=.agg cs/\b0v cs.toList:=fun hu=>by
  have:∃ cs,v=.agg cs/\cs.size=S.P.cellsOf t/\Row.okWide S.P w .any base t cs:=by
   rcases hu with ⟨fs,hu⟩|⟨n,e,hu⟩<;>simpa [Value.okWide,hu] using hok
  obtain ⟨cs,rfl,_,ts,_,_,hr⟩:=this
  refine ⟨cs,rfl,fun j a n c hj=>?_⟩
  obtain ⟨u,_,hu⟩:=hr j _ (by simpa using hj)
  exact b6m hu
 cases d with
 | zero=>simp [tyIs] at h
 | succ d =>
  have h':=h
  simp only [tyIs,Bool.and_eq_true,beq_iff_eq] at h
  obtain ⟨hsz,h⟩:=h
  split at h
  ·rename_i k k' hu
   have:=of_decide_eq_true h
   subst this
   simp only [Value.okWide,hu] at hok
   cases v<;>simp [Cell.okWide,Cell.ok,hu] at hok
   obtain ⟨cl,h1,h2⟩:=a3q (S:=S) (g:=g) hM (d+1) t _ fuel _ _ h' hx (by simp [T.flat])
   simp only [T.has] at h1
   obtain ⟨n,rfl,hw⟩:=h1
   exact ⟨.sc (.int k n),by simp only [T.hasV,T.has];exact ⟨_,rfl,n,rfl,hw⟩,.sc _ _ (h2.2 0 _ _ rfl rfl)⟩
  ·rename_i hu
   simp only [Value.okWide,hu] at hok
   cases v<;>simp [Cell.okWide,Cell.ok,hu] at hok
   obtain ⟨cl,h1,h2⟩:=a3q (S:=S) (g:=g) hM (d+1) t _ fuel _ _ h' hx (by simp [T.flat])
   simp only [T.has] at h1
   obtain ⟨n,rfl⟩:=h1
   exact ⟨.sc (.bool n),by simp only [T.hasV,T.has];exact ⟨_,rfl,n,rfl⟩,.sc _ _ (h2.2 0 _ _ rfl rfl)⟩
  ·rename_i hu
   simp only [Value.okWide,hu] at hok
   cases v<;>simp [Cell.okWide,Cell.ok,hu] at hok
   obtain ⟨cl,h1,h2⟩:=a3q (S:=S) (g:=g) hM (d+1) t _ fuel _ _ h' hx (by simp [T.flat])
   simp only [T.has] at h1
   obtain ⟨n,rfl⟩:=h1
   exact ⟨.sc (.str n),by simp only [T.hasV,T.has];exact ⟨_,rfl,n,rfl⟩,.sc _ _ (h2.2 0 _ _ rfl rfl)⟩
  ·rename_i e es e' hu
   simp only [Value.okWide,hu] at hok
   obtain ⟨p,n,c,rfl⟩:∃ p n c,v=.slice p n c:=by
    cases v<;>first|exact ⟨_,_,_,rfl⟩|simp [Cell.okWide,Cell.ok,hu] at hok
   obtain ⟨cl,h1,h2⟩:=a3q (S:=S) (g:=g) hM (d+1) t _ fuel _ _ h' hx (fun _ j a n' c' hj=>by
    rcases j with _|j
    ·simp [Value.cells] at hj
     obtain ⟨rfl,rfl,rfl⟩:=hj
     exact b6m hok
    ·simp [Value.cells] at hj)
   have hl:=h2.1
   have hone:∃ c,cl=[c]:=by
    simp only [T.has] at h1
    rcases h1 with rfl|⟨k,l,rfl,_⟩<;>exact ⟨_,rfl⟩
   obtain ⟨c0,rfl⟩:=hone
   exact ⟨.sc c0,by simp only [T.hasV];exact ⟨c0,rfl,h1⟩,.sc _ _ (h2.2 0 _ _ rfl rfl)⟩
  ·rename_i fs ts hu
   obtain ⟨cs,rfl,hsp⟩:=agg (.inl ⟨fs,hu⟩)
   obtain ⟨cl,h1,h2⟩:=a3q (S:=S) (g:=g) hM (d+1) t _ fuel _ _ h' hx (fun _=>hsp)
   simp only [T.has] at h1
   exact ⟨.agg cl,by simp only [T.hasV];exact ⟨cl,rfl,h1⟩,.agg cl cs (by simpa [Value.cells] using h2.1) fun j c v a b=>h2.2 j c v a (by simpa [Value.cells] using b)⟩
  ·rename_i n e ts hu
   obtain ⟨cs,rfl,hsp⟩:=agg (.inr ⟨n,e,hu⟩)
   obtain ⟨cl,h1,h2⟩:=a3q (S:=S) (g:=g) hM (d+1) t _ fuel _ _ h' hx (fun _=>hsp)
   simp only [T.has] at h1
   exact ⟨.agg cl,by simp only [T.hasV];exact ⟨cl,rfl,h1⟩,.agg cl cs (by simpa [Value.cells] using h2.1) fun j c v a b=>h2.2 j c v a (by simpa [Value.cells] using b)⟩
  ·cases h
theorem b3o (hM:∀ b o,g.M b o=w.cell? ⟨b,o,none⟩) {d:Nat}:∀ {ts:List TypeId} {shs:List T} {vs:List Value} {ds:List (DataW H)} {ps:List MemPlace},a6V S.P d ts shs=true->DataW.TrodAll enc S.P w base sp held ts vs ds ps →
 (∀ (j:Nat) t v,ts[j]?=some t->vs[j]?=some v->Value.okWide S.P w .any base t v)->∃ ys,a6Z shs ys/\RVs S g ys vs
 | [],[],vs,ds,ps,_,h,_=>by
  obtain ⟨rfl,rfl,rfl⟩:=trodAll_nil h
  exact ⟨[],rfl,rfl,fun j v x a=>by simp at a⟩
 | t::ts,sh::shs,vs,ds,ps,hp,h,hok=>by
  simp only [a6V,Bool.and_eq_true] at hp
  obtain ⟨v,vs',x,ds',p,q,rfl,rfl,rfl,hv,hr⟩:=trodAll_cons h
  obtain ⟨y,hy,hyv⟩:=b6N (S:=S) (g:=g) hM hp.1 hv (hok 0 t v rfl rfl)
  obtain ⟨ys,hys,hl,hyvs⟩:=b3o hM hp.2 hr (fun j t v a b=>hok (j+1) t v (by simpa using a) (by simpa using b))
  refine ⟨y::ys,⟨y,ys,rfl,hy,hys⟩,by simp [hl],fun j a b h1 h2=>?_⟩
  rcases j with _|j
  ·simp at h1 h2;subst h1;subst h2;exact hyv
  ·exact hyvs j a b (by simpa using h1) (by simpa using h2)
 | [],_::_,_,_,_,hp,_,_=>by simp [a6V] at hp
 | _::_,[],_,_,_,hp,_,_=>by simp [a6V] at hp
def Gh.start (w:World):Gh:={ σ:=fun _=>0,A:=fun _=>False,M:=fun b o=>w.cell? ⟨b,o,none⟩,N:=fun b=>match w.heap[b]? with|some (.map es n)=>if n=es.size then some es else none|_=>none }
theorem b6X {G:List Nat} (hgl:∀ id∈G,RC S (.start w) (.eptr (S.Γ.glob id) 0) (.pointer (some ⟨S.gm id,0,none⟩))):RelH S G (.start w) [] w where
 ob:=fun r o h=>by simp at h
 as:=fun r h=>h.elim
 lv:=fun r o h=>by simp at h
 inj:=fun r r' o o' h=>by simp at h
 im:=fun b o v h=>h
 mm:=fun b es h=>by
  simp only [Gh.start] at h
  split at h
  ·rename_i es' n he
   split at h
   ·rename_i hn
    simp only [Option.some.injEq] at h
    subst h
    exact ⟨n,he,hn⟩
   ·cases h
  ·cases h
 djM:=fun r o h=>by simp at h
 djN:=fun r o h=>by simp at h
 gl:=hgl
 ex:=fun r j r' j' b h=>by obtain ⟨cs,es,l,vals,elem,fr,a,n,cap,h1,_⟩:=h;simp at h1
 cl:=fun r j b r' o h=>by obtain ⟨cs,es,l,vals,elem,fr,a,n,cap,h1,_⟩:=h;simp at h1
theorem a6Z.len:∀ {ts:List T} {vs:List V},a6Z ts vs->vs.length=ts.length
 | [],vs,h=>by simp only [a6Z] at h;subst h;rfl
 | t::ts,vs,h=>by
  simp only [a6Z] at h
  obtain ⟨v,r,rfl,_,hr⟩:=h
  simp [a6Z.len hr]
theorem b0Q:∀ {ts:List TypeId} {vs:List Value} {ds:List (DataW H)} {ps:List MemPlace},DataW.TrodAll enc S.P w base sp held ts vs ds ps->ds.length=vs.length
 | [],vs,ds,ps,h=>by obtain ⟨rfl,rfl,rfl⟩:=trodAll_nil h;rfl
 | t::ts,vs,ds,ps,h=>by
  obtain ⟨v,vs',x,ds',p,q,rfl,rfl,rfl,hv,hr⟩:=trodAll_cons h
  simp [b0Q hr]
theorem b0p {w':World} (hs:∀ b,b<w.heap.size->w'.heap[b]?=w.heap[b]?) {sp':Nat->Bool} (hl:laidOutB S.P=true):∀ {ts:List TypeId} {vs:List Value} {ds:List (DataW H)} {ps:List MemPlace},(∀ t∈ts,S.P.readableRec t=true/\t<S.P.types.size) →
 DataW.TrodAll enc S.P w 0 (fun _=>true) true ts vs ds ps->(∀ p∈ps,p.block<w.heap.size)->(∀ p∈ps,sp' p.block=true)->DataW.TrodAll enc S.P w' 0 sp' true ts vs ds ps
 | [],vs,ds,ps,_,h,_,_=>by obtain ⟨rfl,rfl,rfl⟩:=trodAll_nil h;rfl
 | t::ts,vs,ds,ps,ht,h,hlt,hsp=>by
  obtain ⟨v,vs',x,ds',p,q,rfl,rfl,rfl,⟨n,hv⟩,hr⟩:=trodAll_cons h
  have ht1:=ht t (by simp)
  have same:∀ z:MemPlace,z.block<w.heap.size->w.sameAt w' z:=fun z hz=>by
   cases z with
   | cell b off=>simp only [World.sameAt,World.cell?];rw [hs b hz]
   | map b=>exact hs b hz
  exact ⟨p,q,⟨n,DataW.trod_stays (kids_book hl ht1.1) (book_sized ht1.1) (fun e=>by cases e) ⟨ht1.2,book_self t⟩ hv (fun z hz=>same z (hlt z (by simp [show z∈p from hz]))) fun z hz=>hsp z (by simp [show z∈p from hz])⟩,
   b0p hs hl (fun t' h'=>ht t' (by simp [h'])) hr (fun z hz=>hlt z (by simp [hz])) (fun z hz=>hsp z (by simp [hz])),rfl⟩
theorem b4C {G:List Nat} (hS:SeatOk S G) {id:Nat} {fn:Func} {s:ChangeSpec} {fresh:Bool} {tb:TypeId} (d:Nat) (shs:List T) (hps:a6V S.P d fn.params.toList shs=true) (hrd:(fn.params.toList.all fun t=>S.P.readableRec t&&decide (t<S.P.types.size))=true)
 (hlo:laidOutB S.P=true) (hres:fn.resultTypes=#[tb]) (htb:S.P.underlying tb=some .bool) (hvars:s.vars=[]) (hspec:∀ ds:List (DataW H),ds.length=shs.length->s.fn H ds={ results:=[.lit (.bool true)],args:=ds })
 (hK:∀ vs,a6Z shs vs->K S.Γ (.fn id) vs []=some (.sc (.bool true),[])) {W:World} {args:Array Value} {ds gs:List (DataW H)} {before:List MemPlace}
 (hval:∀ (j:Nat) t v,fn.params[j]?=some t->args[j]?=some v->Value.okWide S.P W .any base t v) (hW:DataW.Whole enc S.P fn.params.toList s.vars false W args.toList ds gs before)
 (hgl:∀ id∈G,RC S (.start W) (.eptr (S.Γ.glob id) 0) (.pointer (some ⟨S.gm id,0,none⟩))) :
 Calls S.P (S.fm id) args W fun e W'=>∃ v,e=.returned v/\s.post enc S.P fn false fresh false false W args v W':=by
 have hW':=hW
 obtain ⟨p,q,hA,hV,rfl,hfz,hnd⟩:=hW
 rw [hvars] at hV
 obtain ⟨rfl,rfl⟩:=trodVars_none hV
 obtain ⟨ys,hys,hr⟩:=b3o (S:=S) (g:=.start W) (fun _ _=>rfl) (held:=true) hps hA (fun j t v a b=>hval j t v (by simpa using a) (by simpa using b))
 have hc:=c3k hS (hK ys hys) (b6X hgl) hr
 refine hc.mono fun e w' ⟨x,g',he,hG,hx⟩=>⟨x,he,?_⟩
 obtain rfl:x=.bool true:=by
  cases hx with
  | sc _ _ h=>cases h;rfl
 have hsame:∀ b,b<W.heap.size->w'.heap[b]?=W.heap[b]?:=fun b hb=>hG.keeps.same b hb (by
  rintro ((⟨r,o,h,_⟩|⟨r,j,cs,es,l,vals,elem,fr,a,n,cap,h1,_⟩)|⟨i,q,es,l,a,n,cap,h1,_⟩)
  ·simp at h
  ·simp at h1
  ·simp [get] at h1)
 have hdl:ds.length=shs.length:=by
  rw [b0Q hA, ← hys.len]
  exact hr.1.symm
 have hsp:=hspec ds hdl
 simp only [List.all_eq_true,Bool.and_eq_true,decide_eq_true_eq] at hrd
 have hkeep:=b0p (S:=S) (enc:=enc) (w':=w') hsame (sp':=fun b=>decide (b<W.heap.size)) hlo hrd hA (fun z hz=>hW'.lt z (by simpa using hz)) (fun z hz=>by simpa using hW'.lt z (by simpa using hz))
 refine ⟨ds,[],p++[],[],p,[],hW',?_,?_,?_,?_,fun h=>by cases h⟩
 ·simp only [List.append_nil,hsp,hres]
  exact trodAll_mk1 ⟨1,by simp [DataW.trod,Value.cells,htb]⟩
 ·simp only [List.append_nil,hsp]
  exact hkeep
 ·rw [hvars]
  simp only [List.append_nil,hsp]
  rfl
 ·refine ⟨hG.keeps.os,hG.keeps.out,fun i hi=>?_⟩
  rw [hsame i hi]
  exact (World.keptBut_refl W (fun z=>z∈p++[]/\(z∈[]\/z∈p\/z∈[]))).2.2 i hi
end
end Go.Pm
namespace Go.Pm
section
variable {H:Type} {enc:TypeId × Value->H} {S:Seat} {g:Gh} {w:World} {base:Nat} {sp:Nat->Bool} {held:Bool}
theorem b0H {P:Program} {d:Nat}:∀ (fs:List Field) (n off:Nat),a2V P (tyIs P d) off fs (List.replicate n (.int .i64))=true->∀ (i:Nat) f,fs[i]?=some f->f.offset=off+i/\P.cellsOf f.type=1/\P.underlying f.type=some (.int .i64)
 | [],n,off,_,i,f,hf=>by simp at hf
 | x::xs,0,off,h,_,_,_=>by simp [a2V] at h
 | x::xs,n+1,off,h,i,f,hf=>by
  simp only [List.replicate_succ,a2V,Bool.and_eq_true,beq_iff_eq] at h
  obtain ⟨⟨⟨h1,h2⟩,h3⟩,h4⟩:=h
  rcases i with _|i
  ·simp at hf
   subst hf
   refine ⟨h1,h2,?_⟩
   cases d with
   | zero=>simp [tyIs] at h3
   | succ d =>
    simp only [tyIs,Bool.and_eq_true] at h3
    have h5:=h3.2
    split at h5<;>simp_all
  ·have:=b0H xs n _ h4 i f (by simpa using hf)
   simp only [T.size] at this
   exact ⟨by omega,this.2⟩
theorem b7C {d:Nat} {t:TypeId} {n fuel:Nat} {cs:List Value} {zs:List Int} {p:List MemPlace} (h:tyIs S.P d t (.st (List.replicate n (.int .i64)))=true)
 (hx:DataW.trod enc S.P w base sp held fuel t cs=some (.agg (zs.map fun z=>.lit (.int .i64 z)),p)):cs=zs.map (Value.int .i64 ·):=by
 have sz:∀ n,T.a6t (List.replicate n (.int .i64))=n:=fun n=>by
  induction n with
  | zero=>rfl
  | succ n ih=>simp only [List.replicate_succ,T.a6t,T.size,ih];omega
 have main:∀ (xs:List (DataW H × List MemPlace)) (m:Nat),DataW.agg (H:=H) (zs.map fun z=>.lit (.int .i64 z))=.agg (xs.map (·.1))->cs.length=n->xs.length=n →
  (∀ i,i<n->∃ ti,S.P.underlying ti=some (.int .i64)/\DataW.trod enc S.P w base sp held m ti ((cs.drop i).take 1)=xs[i]?)->cs=zs.map (Value.int .i64 ·):=fun xs m he hcl hxl hf=>by
  simp only [DataW.agg.injEq] at he
  apply List.ext_getElem?
  intro i
  by_cases hi:i<n
  ·obtain ⟨ti,hu,ht⟩:=hf i hi
   rw [List.getElem?_eq_getElem (by omega)] at ht
   obtain ⟨z,h1,h2,_⟩:=DataW.trod_int hu ht
   have h3:(zs.map fun z=>DataW.lit (H:=H) (.int .i64 z))[i]?=some (xs[i]).1:=by rw [he];simp [hxl,hi]
   rw [h2,List.getElem?_map] at h3
   cases hz:zs[i]? with
   | none=>rw [hz] at h3;simp at h3
   | some z' =>
    rw [hz] at h3
    simp at h3
    subst h3
    rw [List.getElem?_map,hz]
    have:((cs.drop i).take 1)[0]?=some (Value.int .i64 z'):=by rw [h1];rfl
    simpa [List.getElem?_take,List.getElem?_drop] using this
  ·have:zs.length=n:=by have:=congrArg List.length he;simp at this;omega
   rw [List.getElem?_eq_none (by omega),List.getElem?_eq_none (by simp;omega)]
 cases d with
 | zero=>simp [tyIs] at h
 | succ d =>
  simp only [tyIs,Bool.and_eq_true,beq_iff_eq,T.size,sz] at h
  obtain ⟨hsz,h⟩:=h
  split at h
  ·rename_i e;cases e
  ·rename_i e;cases e
  ·rename_i e;cases e
  ·rename_i e;cases e
  ·rename_i fs ts hu e
   cases e
   obtain ⟨xs,m,_,he,hcl,hxl,hf⟩:=DataW.trod_struct hu hx
   have hfl:∀ (fs:List Field) (k off:Nat),a2V S.P (tyIs S.P d) off fs (List.replicate k (.int .i64))=true->fs.length=k:=fun fs=>by
    induction fs with
    | nil=>intro k off h;cases k with|zero=>rfl|succ k=>simp [List.replicate_succ,a2V] at h
    | cons x xs ih=>intro k off h;cases k with|zero=>simp [a2V] at h|succ k=>simp only [List.replicate_succ,a2V,Bool.and_eq_true] at h;simp [ih k _ h.2]
   have hfs:=hfl _ _ _ h
   have hfs':fs.size=n:=by simpa using hfs
   refine main xs m (Prod.mk.inj he).1 (by omega) (by omega) (fun i hi=>?_)
   have hfi:fs[i]?=some (fs[i]'(by omega)):=Array.getElem?_eq_getElem _
   obtain ⟨h1,h2,h3⟩:=b0H _ _ _ h i _ (by rw [Array.getElem?_toList];exact hfi)
   have:=hf i _ hfi
   rw [h1,h2,Nat.zero_add] at this
   exact ⟨_,h3,this⟩
  ·rename_i n' e ts hu e'
   cases e'
   simp only [Bool.and_eq_true,beq_iff_eq,List.length_replicate,List.all_eq_true] at h
   obtain ⟨rfl,h⟩:=h
   obtain ⟨xs,m,_,he,hcl,hxl,hf⟩:=DataW.trod_array hu hx
   refine main xs m (Prod.mk.inj he).1 (by omega) (by omega) (fun i hi=>?_)
   have h0:=h (.int .i64) (List.mem_replicate.2 ⟨by omega,rfl⟩)
   have:=hf i hi
   rw [h0.1] at this
   simp only [T.size,Nat.mul_one] at this
   refine ⟨e,?_,this⟩
   have h3:=h0.2
   cases d with
   | zero=>simp [tyIs] at h3
   | succ d =>
    simp only [tyIs,Bool.and_eq_true] at h3
    have h5:=h3.2
    split at h5<;>simp_all
  ·cases h
theorem b6s {t e:TypeId} {n fuel:Nat} {cs:List Value} {l:List (List UInt8 × FuncId)} {p:List MemPlace} {ps rs:Array TypeId} {va:Bool} (hu:S.P.underlying t=some (.array n e)) (he:S.P.underlying e=some (.func ps rs va)) (hc:S.P.cellsOf e=1)
 (hsz:S.P.cellsOf t=n) (hl:(l.all fun x=>!x.1.isEmpty&&decide (((List.range S.P.funcs.size).filter fun f=>(S.P.funcs[f]?).any (·.name.toUTF8.data.toList == x.1))=[x.2]))=true)
 (hx:DataW.trod (funcToken S.P) S.P w base sp true fuel t cs=some (.agg (l.map fun x=>.held x.1),p)):cs=l.map fun x=>Value.func (.func x.2) #[] #[]:=by
 obtain ⟨xs,m,_,hagg,hcl,hxl,hf⟩:=DataW.trod_array hu hx
 have hagg:=(Prod.mk.inj hagg).1
 simp only [DataW.agg.injEq] at hagg
 have hll:l.length=n:=by have:=congrArg List.length hagg;simp at this;omega
 apply List.ext_getElem?
 intro i
 by_cases hi:i<n
 ·have ht:=hf i hi
  rw [hc,Nat.mul_one,List.getElem?_eq_getElem (by omega)] at ht
  have hseg:(cs.drop i).take 1=[cs[i]'(by omega)]:=by rw [List.drop_eq_getElem_cons (by omega)];rfl
  rw [hseg] at ht
  have h3:(l.map fun x=>DataW.held (H:=List UInt8) x.1)[i]?=some (xs[i]).1:=by rw [hagg];simp [hxl,hi]
  have hli:l[i]?=some (l[i]'(by omega)):=List.getElem?_eq_getElem _
  rw [List.getElem?_map,hli] at h3
  simp only [Option.map_some,Option.some.injEq] at h3
  have hm:=List.all_eq_true.1 hl (l[i]'(by omega)) (List.getElem_mem _)
  simp only [Bool.and_eq_true,Bool.not_eq_true',decide_eq_true_eq] at hm
  cases hn:(l[i]'(by omega)).1 with
  | nil=>rw [hn] at hm;simp at hm
  | cons b r =>
   have ht':DataW.trod (funcToken S.P) S.P w base sp true m e [cs[i]'(by omega)]=some (.held (b::r),(xs[i]'(by omega)).2):=by rw [ht, ← hn,h3]
   rw [hn] at hm
   have:=func_of_trod he hm.2 ht'
   rw [List.getElem?_eq_getElem (by omega),List.getElem?_map,hli,this]
   rfl
 ·rw [List.getElem?_eq_none (by omega),List.getElem?_eq_none (by simp;omega)]
theorem b5L {n:String} {b:Nat} {cs:Array Value} {cl:List C} (hg:S.P.globalNamed n=some b) (hv:w.var? S.P n=some cs) (hp:C.a0v cl=true) (hc:Cls S (.start w) cl cs.toList):RC S (.start w) (.eptr cl 0) (.pointer (some ⟨b,0,none⟩)):=by
 have hsz:cl.length=cs.size:=by simpa using hc.1
 have:=RC.eptr (S:=S) (g:=.start w) cl 0 b 0 (fun j=>cs.getD j undef) hp (fun j hj=>by
  simp only [Gh.start,Nat.zero_add]
  rw [World.var?_cell hg hv j]
  have:j<cs.size:=by omega
  simp [Array.getD_eq_getD_getElem?,this]) (fun j c hj=>by
  have hlt:j<cs.size:=by have:=(List.getElem?_eq_some_iff.1 hj).1;omega
  refine hc.2 j c _ hj ?_
  simp [Array.getD_eq_getD_getElem?,hlt])
 simpa using this
theorem b7H {P:Program} {n:String} {d:DataW Unit} {r:List (String × DataW Unit)} {ps:List MemPlace} (h:DataW.LaidVars P w ((n,d)::r) ps) :
 (∃ g t cs fuel p,P.globalNamed n=some g/\(P.globals[g]?).map (·.type)=some t/\w.var? P n=some cs/\DataW.trod (fun _=>()) P w 0 (fun _=>true) false fuel t cs.toList=some (d,p))/\∃ q,DataW.LaidVars P w r q:=by
 obtain ⟨g,t,cs,fuel,p,q,h1,h2,h3,h4,h5,_⟩:=h
 exact ⟨⟨g,t,cs,fuel,p,h1,h2,h3,h4⟩,q,h5⟩
theorem b4B {P:Program} {n:String} {d:DataW Unit}:∀ {l:List (String × DataW Unit)} {ps:List MemPlace},DataW.LaidVars P w l ps->(n,d)∈l →
 ∃ g t cs fuel p,P.globalNamed n=some g/\(P.globals[g]?).map (·.type)=some t/\w.var? P n=some cs/\DataW.trod (fun _=>()) P w 0 (fun _=>true) false fuel t cs.toList=some (d,p)
 | [],_,_,h=>by simp at h
 | (n',d')::l,ps,h,hm=>by
  obtain ⟨h1,q,h2⟩:=b7H h
  rcases List.mem_cons.1 hm with e|hm
  ·cases e;exact h1
  ·exact b4B h2 hm
theorem b7x {n:String} {b t k d:Nat} {zs:List Int} {l:List (String × DataW Unit)} (h:laidMetH S.P l w) (hm:(n,.agg (zs.map fun z=>.lit (.int .i64 z)))∈l) (hg:S.P.globalNamed n=some b) (ht:(S.P.globals[b]?).map (·.type)=some t)
 (hty:tyIs S.P d t (.st (List.replicate k (.int .i64)))=true):RC S (.start w) (.eptr (zs.map (C.int .i64 ·)) 0) (.pointer (some ⟨b,0,none⟩)):=by
 have h1:=(laidMetH_iff.1 h).1
 obtain ⟨ps,hl,_⟩:=h1
 obtain ⟨g,t',cs,fuel,p,k1,k2,k3,k4⟩:=b4B (n:=n) (d:=.agg (zs.map fun z=>.lit (.int .i64 z))) hl (List.mem_filter.2 ⟨hm,rfl⟩)
 obtain rfl:=Option.some.inj (hg.symm.trans k1)
 obtain rfl:=Option.some.inj (ht.symm.trans k2)
 have:=b7C hty k4
 refine b5L hg k3 (b0j.2 fun c hc=>by obtain ⟨z,_,rfl⟩:=List.mem_map.1 hc;rfl) ?_
 rw [this]
 refine ⟨by simp,fun j c v a b=>?_⟩
 rw [List.getElem?_map] at a b
 cases hz:zs[j]? with
 | none=>rw [hz] at a;cases a
 | some z=>rw [hz] at a b;cases a;cases b;exact .int .i64 z
theorem b6t {n:String} {b t e k:Nat} {dd:DataW Unit} {ids:List Nat} {names:List (List UInt8)} {l:List (String × DataW Unit)} {ps rs:Array TypeId} {va:Bool} (h:laidMetH S.P l w) (hm:(n,.iface "func table" dd)∈l) (hg:S.P.globalNamed n=some b)
 (ht:(S.P.globals[b]?).map (·.type)=some t) (hu:S.P.underlying t=some (.array k e)) (he:S.P.underlying e=some (.func ps rs va)) (hc:S.P.cellsOf e=1) (hsz:S.P.cellsOf t=k)
 (hd:dd.funcsOut=.agg (names.map .held)) (hlen:names.length=ids.length)
 (hl:((names.zip (ids.map S.fm)).all fun x=>!x.1.isEmpty&&decide (((List.range S.P.funcs.size).filter fun f=>(S.P.funcs[f]?).any (·.name.toUTF8.data.toList == x.1))=[x.2]))=true) :
 RC S (.start w) (.eptr (ids.map fun i=>C.fn (.fn i) [] [] []) 0) (.pointer (some ⟨b,0,none⟩)):=by
 obtain ⟨g,t',cs,fuel,p,k1,k2,k3,k4⟩:=h.funcs hm
 obtain rfl:=Option.some.inj (hg.symm.trans k1)
 obtain rfl:=Option.some.inj (ht.symm.trans k2)
 rw [hd] at k4
 have e0:(names.zip (ids.map S.fm)).map Prod.fst=names:=List.map_fst_zip (by simp [hlen])
 have e1:names.map DataW.held=((names.zip (ids.map S.fm)).map fun x=>DataW.held (H:=List UInt8) x.1) :=
  (congrArg (List.map DataW.held) e0).symm.trans (List.map_map ..)
 rw [e1] at k4
 have:=b6s hu he hc hsz hl k4
 refine b5L hg k3 (b0j.2 fun c hc=>by obtain ⟨z,_,rfl⟩:=List.mem_map.1 hc;rfl) ?_
 rw [this]
 refine ⟨by simp [hlen],fun j c v a b=>?_⟩
 rw [List.getElem?_map] at a b
 cases hz:ids[j]? with
 | none=>rw [hz] at a;cases a
 | some i =>
  have hj:j<ids.length:=(List.getElem?_eq_some_iff.1 hz).1
  have hzip:(names.zip (ids.map S.fm))[j]?=some (names[j]'(by omega),S.fm i):=by
   rw [List.getElem?_zip_eq_some]
   exact ⟨List.getElem?_eq_getElem _,by rw [List.getElem?_map,hz];rfl⟩
  rw [hz] at a
  rw [hzip] at b
  cases a
  cases b
  exact .fn i [] [] [] [] [] [] rfl rfl (fun j c v a=>by simp at a) rfl (fun j c v a=>by simp at a)
end
end Go.Pm
