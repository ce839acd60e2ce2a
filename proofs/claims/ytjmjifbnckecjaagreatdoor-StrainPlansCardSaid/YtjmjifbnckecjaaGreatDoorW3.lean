/- The plain machine, part 3. -/
import Derived.Test.YtjmjifbnckecjaaGreatDoorW2
import Derived.Laws.IdiomRangeMap
import Derived.RangeFuncRecord
import Derived.OrdersIn
import Derived.LoopNIn
import Derived.Maps.RangeRun
set_option linter.all false
set_option maxRecDepth 100000
namespace Go.Pm
theorem b3b : ∀ (n r c : Nat), Builtin.growBy n r c <= max c (n + (n + 768) / 4)
 | n, 0, c => by simp only [Builtin.growBy]; omega
 | n, r + 1, c => by
  simp only [Builtin.growBy]
  split
  ·omega
  ·have := b3b n r (c + (c + 768) / 4)
   omega
theorem nextslicecap_le {n old : Nat} (h : old < n) (hn : n <= 2147483648) : Builtin.nextslicecap n old <= 4294967296 := by
 unfold Builtin.nextslicecap
 split
 ·omega
 ·split
  ·omega
  ·have := b3b n 4 old
   omega
section
variable {S : Seat} {G : List Nat} {g g' g'' : Gh} {nt : Nat} {s s' s'' : St} {a a' a'' : Act} {w w' w'' : World} {h : List Obj} {base : Nat} {v : V} {ws : List (Nat × Obj)} {takes : List Nat}
theorem a5E {es : Nat} {l : List (List C)} {v : V} {x : Value} (hH : RelH S G g h w) (he : 0 < es) (hel : elems es v = some l) (hv : RV S g v x) :
 ∃ arr : Array Value, (∀ w', w'.heap = w.heap -> (Builtin.firstCells es l.length x).run S.P w' = .ok arr w') /\ Cells S g l.flatten arr /\ (∀ e ∈ l, e.length = es) /\ (∀ e ∈ l, C.a0v e = true) /\ ∃ p c, x = .slice p l.length c /\ (p = none -> l = []) := by
 rcases a9U hel hv with ⟨rfl, rfl⟩ | ⟨b, off, cap, rfl, hc, hle, hM⟩
 ·exact ⟨#[], by simp [Builtin.firstCells], ⟨rfl, fun j c x h1 => by simp at h1⟩, by simp, by simp, none, 0, rfl, fun _ => rfl⟩
 ·have hl : ∀ e ∈ l, e.length = es := fun e he => let ⟨i, hi⟩ := List.getElem?_of_mem he; (hle i e hi).1
  have hp : ∀ e ∈ l, C.a0v e = true := fun e he => let ⟨i, hi⟩ := List.getElem?_of_mem he; (hle i e hi).2
  have key : ∀ k, k < l.length * es -> ∃ c y, l.flatten[k]? = some c /\ w.cell? ⟨b, off + k, none⟩ = some y /\ RC S g c y := fun k hk => by
   have hi : k / es < l.length := (Nat.div_lt_iff_lt_mul he).2 hk
   have hj := Nat.mod_lt k he
   have e1 := b0y hl he k
   rw [List.getElem?_eq_getElem hi, Option.bind_some] at e1
   have hlen := hl l[k / es] (List.getElem_mem hi)
   have hej : l[k / es][k % es]? = some (l[k / es][k % es]'(by rw [hlen]; exact hj)) := List.getElem?_eq_getElem _
   obtain ⟨y, hy, hr⟩ := hM (k / es) l[k / es] (k % es) _ (List.getElem?_eq_getElem hi) hej
   rw [Nat.add_assoc, Nat.div_add_mod'] at hy
   exact ⟨_, y, by rw [e1, hej], hH.im _ _ _ hy, hr⟩
  let f : Nat -> Value := fun k => (w.cell? ⟨b, off + k, none⟩).getD undef
  have hrun := fun (w' : World) (hw' : w'.heap = w.heap) => run_loadCells (P := S.P) w' ⟨b, off, none⟩ (l.length * es) f (fun k hk => by
   obtain ⟨c, y, _, h2, _⟩ := key k hk
   have : w'.cell? ⟨b, off + k, none⟩ = w.cell? ⟨b, off + k, none⟩ := by simp only [World.cell?, hw']
   rw [Addr.a2h, this]; simp [f, h2])
  refine ⟨_, by simp only [Builtin.firstCells]; exact hrun, ⟨by rw [a2G hl]; simp, fun j c x h1 h2 => ?_⟩, hl, hp, _, _, rfl, by simp⟩
  have hj : j < l.length * es := by
   have := (List.getElem?_eq_some_iff.1 h1).1
   rwa [a2G hl] at this
  obtain ⟨c', y, e1, e2, e3⟩ := key j hj
  rw [h1] at e1
  cases e1
  simp [hj, f, e2] at h2
  subst h2
  exact e3
theorem b5t {P : Program} {t e : TypeId} (h : P.underlying t = some (.slice e)) : ((do pure ((← underlying t) matches .int _) : Sem Bool)).run P w = .ok false w := by
 simp [run_underlying h]
theorem a7a {t t2 ty : TypeId} {es n cap len c2 : Nat} {base : Option Addr} {p2 : Option Addr} {new : Array Value} (T : AppTy S t t2 es) (hroom : len + n <= cap)
 (hnew : (Builtin.firstCells es n (.slice p2 n c2)).run S.P w = .ok new w) (hst : ∀ ad, base = some ad -> (storeCells (ad.add (len * es)) new.toList).run S.P w = .ok () w') (hnone : base = none -> w' = w) :
 (Builtin.append_ #[t, t2] ty #[.slice base len cap, .slice p2 n c2]).run S.P w = .ok (.slice base (len + n) cap) w' := by
 have h1 := b5t (w := w) T.hu2
 simp only [Sem.run_bind] at h1
 cases base with
 | none =>
  have := hnone rfl
  subst this
  simp [Builtin.append_, run_underlying T.hu, run_underlying T.hu2, a1u T.hi, T.hs, Builtin.lenOf, hroom, hnew]
 | some ad =>
  simp [Builtin.append_, run_underlying T.hu, run_underlying T.hu2, a1u T.hi, T.hs, Builtin.lenOf, hroom, hnew, hst ad rfl]
theorem a9N {t t2 ty : TypeId} {es n cap len c2 : Nat} {base : Option Addr} {p2 : Option Addr} {old new : Array Value} (T : AppTy S t t2 es) (hroom : cap < len + n) (hle : len + n <= 2147483648)
 (hold : ∀ w', w'.heap = w.heap -> (Builtin.firstCells es len (.slice base len cap)).run S.P w' = .ok old w') (hnew : ∀ w', w'.heap = w.heap -> (Builtin.firstCells es n (.slice p2 n c2)).run S.P w' = .ok new w') :
 ∃ ncap, len + n <= ncap /\ (Builtin.append_ #[t, t2] ty #[.slice base len cap, .slice p2 n c2]).run S.P w =
  .ok (.slice (some ⟨w.heap.size, 0, none⟩) (len + n) ncap) (w.drew.alloc (.cells (old ++ new ++ Builtin.zeroCells T.zv.cells (ncap - (len + n))) T.e)) := by
 have hnf : ¬ (len + n <= cap) := by omega
 have hcap := nextslicecap_le hroom hle
 have hbytes : Builtin.nextslicecap (len + n) cap * T.i.bytes <= 2 ^ 48 := by
  calc _ <= 4294967296 * 16384 := Nat.mul_le_mul hcap T.hb
   _ <= 2 ^ 48 := by decide
 have hbn : ¬ (2 ^ 48 < Builtin.nextslicecap (len + n) cap * T.i.bytes) := by omega
 have hb0 : T.i.bytes ≠ 0 := Nat.pos_iff_ne_zero.1 T.hb0
 refine ⟨len + n + w.tape w.drawn (.appendCap (len + n) cap T.e) % (2 ^ 63 - (len + n)), Nat.le_add_right _ _, ?_⟩
 have hq : (choose (.appendCap (len + n) cap T.e)).run S.P w = .ok (len + n + w.tape w.drawn (.appendCap (len + n) cap T.e) % (2 ^ 63 - (len + n))) w.drew := by
  rw [run_choose]; rfl
 have ho := hold w.drew rfl
 have hn := hnew w.drew rfl
 generalize len + n + w.tape w.drawn (.appendCap (len + n) cap T.e) % (2 ^ 63 - (len + n)) = ncap at hq ⊢
 have hbn' : ¬ (Builtin.nextslicecap (len + n) cap * T.i.bytes > 2 ^ 48) := by omega
 simp only [Builtin.append_, Sem.run_bind, run_underlying T.hu, run_underlying T.hu2, a1u T.hi, T.hs, Builtin.lenOf, Sem.run_pure, Result.andThen_ok, if_neg hnf, b9y T.hi, if_neg hbn', hq, run_askRoom, ho, hn, a3B T.hi T.hz,
  newRow, newObj, hb0, Bool.false_eq_true, or_self, and_false, if_false, Bool.not_false, if_true, List.getElem?_toArray, List.getElem?_cons_zero, List.getElem?_cons_succ]
 simp [Sem.run]
 rfl
theorem a7y {t t2 : TypeId} {x' y' : Operand} {x y : Value} {o' : Go.Oper} (ho : o'.op = .call { callee := .builtin .append, args := #[x', y'], argTypes := #[t, t2] }) (hx : a.eval x' = x) (hy : a.eval y' = y) {r : Value}
 (hrun : ∀ ty, (Builtin.append_ #[t, t2] ty #[x, y]).run S.P w = .ok r w') : (execOp a.eval o').run S.P w = .ok (.value r) w' := by
 have := hrun o'.type
 simp [execOp, ho, resolve, invoke, builtin, hx, hy, this]
theorem b1N (hR : Rel S G g nt s a w) (k : Grows g g' w w') {t : List (Nat × V)} (ht : ∀ i b, a0S t a.tmps i b -> a0S s.t a.tmps i b) : Unclaimed g' { t := t, h := s.h } a w' w.heap.size where
 t := fun i hc => absurd (a8e hR (ht i _ hc)) (Nat.lt_irrefl _)
 h := fun _ _ hc => absurd (a9R hR.hp (k.a8G hR.hp hc)) (Nat.lt_irrefl _)
 o := fun r o e hl => by
  rw [k.le.eq r (hR.hp.lv r o e hl)]
  exact Nat.ne_of_lt (a3e hR.hp e hl)
theorem b1Q (hR : Rel S G g nt s a w) {t t2 : TypeId} {x' y' : Operand} {x y : Value} {es cap c2 : Nat} {l m : List (List C)} {p p2 : Option Addr} (T : AppTy S t t2 es) (hx : a.eval x' = x) (hy : a.eval y' = y)
 (hxs : x = .slice p l.length cap) (hys : y = .slice p2 m.length c2) (hcap : cap < l.length + m.length) (hle : l.length + m.length <= 2147483648) {old new : Array Value}
 (hold : ∀ w', w'.heap = w.heap -> (Builtin.firstCells es l.length x).run S.P w' = .ok old w') (hnew : ∀ w', w'.heap = w.heap -> (Builtin.firstCells es m.length y).run S.P w' = .ok new w')
 (ho : Cells S g l.flatten old) (hn : Cells S g m.flatten new) (hl : ∀ e ∈ l ++ m, e.length = es) (hp : ∀ e ∈ l ++ m, C.a0v e = true) (takes : List Nat) :
 Does S G nt g s a w (.call { callee := .builtin .append, args := #[x', y'], argTypes := #[t, t2] }) takes (.sc (.own es (l ++ m))) s.h := by
 subst hxs
 subst hys
 have h0 : ∀ ty, ∃ ncap, l.length + m.length <= ncap /\ (Builtin.append_ #[t, t2] ty #[.slice p l.length cap, .slice p2 m.length c2]).run S.P w =
  .ok (.slice (some ⟨w.heap.size, 0, none⟩) (l.length + m.length) ncap) (w.drew.alloc (.cells (old ++ new ++ Builtin.zeroCells T.zv.cells (ncap - (l.length + m.length))) T.e)) := fun ty => a9N T hcap hle hold hnew
 intro o' ho'
 obtain ⟨ncap, hnc, hrun⟩ := h0 o'.type
 have hlen : (l ++ m).flatten.length = (l.length + m.length) * es := by rw [a2G hl, List.length_append]
 have hosz : old.size = l.length * es := by rw [← ho.1, a2G fun e he => hl e (by simp [he])]
 have hnsz : new.size = m.length * es := by rw [← hn.1, a2G fun e he => hl e (by simp [he])]
 generalize hvals : old ++ new ++ Builtin.zeroCells T.zv.cells (ncap - (l.length + m.length)) = vals at hrun
 have hvsz : vals.size = ncap * es := by
  rw [← hvals]
  simp only [Array.size_append, hosz, hnsz, Builtin.zeroCells, Array.size_map, Array.size_range, T.hzs]
  rw [← Nat.add_mul, ← Nat.add_mul]
  congr 1; omega
 have hcells : ∀ (j : Nat) c, (l ++ m).flatten[j]? = some c -> ∃ z, vals[j]? = some z /\ RC S g c z := fun j c hj => by
  rw [List.flatten_append] at hj
  by_cases hjl : j < l.flatten.length
  ·rw [List.getElem?_append_left hjl] at hj
   have hjo : j < old.size := by rw [← ho.1]; exact hjl
   refine ⟨old[j], ?_, ho.2 j c _ hj (Array.getElem?_eq_getElem hjo)⟩
   rw [← hvals, Array.append_assoc, Array.getElem?_append_left hjo, Array.getElem?_eq_getElem hjo]
  ·rw [List.getElem?_append_right (by omega)] at hj
   have hjn : j - l.flatten.length < new.size := by rw [← hn.1]; exact (List.getElem?_eq_some_iff.1 hj).1
   refine ⟨new[j - l.flatten.length], ?_, hn.2 _ c _ hj (Array.getElem?_eq_getElem hjn)⟩
   have e1 := ho.1
   rw [← hvals, Array.getElem?_append_left (by simp; omega), Array.getElem?_append_right (by omega), ← ho.1, Array.getElem?_eq_getElem hjn]
 have hg := Grows.row hR.hp w.drew (.inr rfl) vals T.e ((l ++ m).length * es)
 have hex : (execOp a.eval o').run S.P w = .ok (.value (.slice (some ⟨w.heap.size, 0, none⟩) (l ++ m).length ncap)) (w.drew.alloc (.cells vals T.e)) := by
  have := hrun
  rw [List.length_append]
  simp [execOp, ho', resolve, invoke, builtin, hx, hy, this]
 refine ⟨_, _, _, g.row w.heap.size ((l ++ m).length * es) vals, hex, .inl rfl, (Goes.drop hR takes).trans (.grow (hR.drop takes) hg), .own _ _ _ _ _ ⟨b0k hl hp hcells hg.le (by simp) (by simp) (by rw [List.length_append]; exact hnc), ⟨vals, T.e, ?_, by rw [hvsz]; omega⟩, fun o hoo => ?_⟩
  (b1N hR hg fun i b hc => hc.a2X.1) (fun h => absurd h (Nat.lt_irrefl _))⟩
 ·exact heap_alloc_new w.drew _
 ·have : ¬ (o < (l ++ m).length * es) := by omega
  simp only [Gh.row, if_true, if_neg this]
theorem b5h (hR : Rel S G g nt s a w) {es : Nat} {x y : Rand} {x' y' : Operand} {t t2 : TypeId} (T : AppTy S t t2 es) (h1 : MT S G x x') (h2 : MR S G y y') (e : eff base s.h (rd S.Γ s.t) (.append es x y) = some (v, ws)) :
 ws = [] /\ Does S G nt g s a w (.call { callee := .builtin .append, args := #[x', y'], argTypes := #[t, t2] }) x.takes v s.h := by
 have hx := b6Q hR h1
 have hy := a0M hR h2
 simp only [eff, one, Option.map_eq_some_iff, Prod.mk.injEq] at e
 obtain ⟨c, hc, rfl, rfl⟩ := e
 refine ⟨rfl, ?_⟩
 unfold appended at hc
 split at hc
 ·cases hc
 ·rename_i m hm
  obtain ⟨new, hnew, hn, hml, hmp, p2, c2, hys, hp2⟩ := a5E hR.hp T.he hm hy
  split at hc
  ·rename_i k es' l hxv
   split at hc
   ·rename_i hcond
    obtain ⟨rfl, hk, hroom⟩ := hcond
    rw [hxv] at hx
    cases hx with
    | rv _ _ hx =>
     have hel : elems es' (.sc (.sl k es' l)) = some l := by simp [elems]
     obtain ⟨old, hold, ho, hll, hlp, p, c1, hxs, hp1⟩ := a5E hR.hp T.he hel hx
     cases m with
     | nil =>
      simp only [Option.some.injEq] at hc
      subst hc
      have hcap : l.length + 0 <= c1 := by
       rw [hxs] at hx
       cases hx with
       | sc _ _ h =>
        cases h with
        | slNil => exact Nat.le_refl 0
        | sl _ _ _ _ _ _ _ _ _ hcc => exact hcc
      have hnn : new = #[] := by
       have := hn.1
       simp at this
       exact Array.size_eq_zero_iff.1 this.symm
      refine fun o' ho' => ⟨a.eval x', _, w, g, a7y (S := S) ho' rfl rfl fun ty => ?_, .inl rfl, .drop hR x.takes, .rv _ _ hx⟩
      rw [hxs, hys]
      have := a7a (S := S) (w := w) (w' := w) (ty := ty) (base := p) (p2 := p2) (c2 := c2) (n := 0) T hcap (by have := hnew w rfl; rw [hys] at this; exact this) (fun ad _ => by subst hnn; simp [storeCells]) (fun _ => rfl)
      simpa using this
     | cons m0 ms =>
      simp only [Option.some.injEq] at hc
      subst hc
      have hcap : c1 = l.length := by
       rw [hxs] at hx
       cases hx with
       | sc _ _ h =>
        cases h with
        | slNil => rfl
        | sl _ _ _ _ _ _ _ hk' hf =>
         cases k with
         | nil => exact absurd rfl hk'
         | full => exact hf rfl
         | shared => exact absurd rfl hk
      exact b1Q hR T rfl rfl hxs hys (by rw [hcap]; simp) hroom hold hnew ho hn (fun e he => by rcases List.mem_append.1 he with h | h; exact hll e h; exact hml e h)
       (fun e he => by rcases List.mem_append.1 he with h | h; exact hlp e h; exact hmp e h) x.takes
   ·cases hc
  ·rename_i es' l hxv
   split at hc
   ·rename_i hcond
    obtain ⟨rfl, hroom⟩ := hcond
    simp only [Option.some.injEq] at hc
    subst hc
    cases h1 with
    | r _ _ h =>
     have hv := a0M hR h
     rw [hxv] at hv
     cases hv with
     | sc _ _ h => exact absurd rfl (h.a2a _ _)
    | tk i =>
     have ht := hR.tm i
     have hgi : get s.t i = .sc (.own es' l) := hxv
     rw [hgi] at ht
     have hev : a.eval (.tmp i) = a.tmps.getD i undef := rfl
     generalize hxx : a.tmps.getD i undef = xv at ht hev
     cases ht with
     | rv _ _ h =>
      cases h with
      | sc _ _ h => exact absurd rfl (h.a2a _ _)
     | own _ _ b off cap hown =>
      have hcT : a0S s.t a.tmps i b := ⟨es', l, _, _, _, hgi, hxx, rfl⟩
      have hel : elems es' (.sc (.sl .shared es' l)) = some l := by simp [elems]
      obtain ⟨old, hold, ho, hll, hlp, p, c1, hxs, hp1⟩ := a5E hR.hp T.he hel (.sc _ _ hown.rel)
      have hall : ∀ e ∈ l ++ m, e.length = es' := fun e he => by rcases List.mem_append.1 he with h | h; exact hll e h; exact hml e h
      have hallp : ∀ e ∈ l ++ m, C.a0v e = true := fun e he => by rcases List.mem_append.1 he with h | h; exact hlp e h; exact hmp e h
      by_cases hfit : l.length + m.length <= cap
      ·cases hm0 : m with
       | nil =>
        subst hm0
        have hnn : new = #[] := by
         have := hn.1
         simp at this
         exact Array.size_eq_zero_iff.1 this.symm
        refine fun o' ho' => ⟨.slice (some ⟨b, off, none⟩) l.length cap, _, w, g, a7y (S := S) ho' hev rfl fun ty => ?_, .inl rfl, .drop hR [i], ?_⟩
        ·rw [hys]
         have := a7a (S := S) (w := w) (w' := w) (ty := ty) (base := some ⟨b, off, none⟩) (p2 := p2) (c2 := c2) (n := 0) T hfit (by have := hnew w rfl; rw [hys] at this; exact this) (fun ad _ => by subst hnn; simp [storeCells]) (fun _ => rfl)
         simpa using this
        ·rw [List.append_nil]
         exact .own _ _ _ _ _ hown (a8u hR hcT) (fun _ => .inr ⟨i, hcT⟩)
       | cons m0 ms =>
        rw [← hm0]
        obtain ⟨cs, elem, hb, hsz⟩ := hown.blk
        have hlen : (l.length + m.length) * es' <= cap * es' := Nat.mul_le_mul_right _ hfit
        rw [Nat.add_mul] at hlen
        have hnsz : new.size = m.length * es' := by rw [← hn.1, a2G hml]
        have hst := run_storeCells_at S.P b (off + l.length * es') elem new.toList 0 cs w hb (by simp [hnsz]; omega) (fun u hu => by
         obtain ⟨j, hj⟩ := List.getElem?_of_mem hu
         rw [Array.getElem?_toList] at hj
         have hjl : j < m.flatten.length := by rw [hn.1]; exact (Array.getElem?_eq_some_iff.1 hj).1
         exact b3v (w := w) (.rc _ _ (hn.2 j _ u (List.getElem?_eq_getElem hjl) hj)))
        rw [Nat.add_zero] at hst
        generalize hrow : (cs.toList.take (off + l.length * es') ++ new.toList ++ cs.toList.drop (off + l.length * es' + new.toList.length)).toArray = row at hst
        have hget : ∀ j, row[j]? = if off + l.length * es' <= j /\ j < off + l.length * es' + m.length * es' then new[j - (off + l.length * es')]? else cs[j]? := fun j => by
         rw [← hrow, List.getElem?_toArray, b6c _ _ _ _ (by simp [hnsz]; omega)]
         simp [hnsz]
        have hrsz : row.size = cs.size := by
         rw [← hrow]; simp [hnsz]; omega
        have hnew' : (w.setRow b row).heap[b]? = some (.cells row elem (0, 0)) := setRow_heap w b cs row elem (0, 0) hb
        let g' : Gh := { g with M := fun b' o => if b' = b /\ off + l.length * es' <= o /\ o < off + l.length * es' + m.length * es' then new[o - (off + l.length * es')]? else g.M b' o }
        have hMo : ∀ b' o v, g.M b' o = some v -> g'.M b' o = some v := fun b' o v e => by
         have : ¬ (b' = b /\ off + l.length * es' <= o /\ o < off + l.length * es' + m.length * es') := by
          rintro ⟨rfl, h1, _⟩
          rw [hown.spare o h1] at e; cases e
         simp only [g', if_neg this]; exact e
        obtain ⟨hgo, hun⟩ := Goes.extend (g' := g') (w' := w.setRow b row) hR hcT rfl rfl rfl hMo (fun b' o hb' => by simp [g', hb']) (fun o v e => by
         rw [cell_of_heap hnew', hget]
         simp only [g', true_and] at e
         split at e
         ·rename_i hc; rw [if_pos hc]; exact e
         ·rename_i hc
          rw [if_neg hc, ← cell_of_heap hb]
          exact hR.hp.im b o v e) ⟨cs, elem, _, hb⟩ (fun b' hb' => b0P hb') (by simp [World.setRow]) rfl rfl rfl
        refine fun o' ho' => ⟨.slice (some ⟨b, off, none⟩) (l ++ m).length cap, _, w.setRow b row, g', a7y (S := S) ho' hev rfl fun ty => ?_, .inl rfl, hgo, .own _ _ _ _ _ ⟨?_, ⟨row, elem, hnew', by rw [hrsz]; exact hsz⟩, fun o hoo => ?_⟩ hun (fun _ => .inr ⟨i, hcT⟩)⟩
        ·rw [hys, List.length_append]
         refine a7a (S := S) T hfit (by have := hnew w rfl; rw [hys] at this; exact this) (fun ad had => ?_) (by simp)
         simp only [Option.some.injEq] at had
         subst had
         rw [Addr.a2h]
         exact hst
        ·have hMl : ∀ (i : Nat) (e : List C) (j : Nat) c, l[i]? = some e -> e[j]? = some c -> ∃ y, g.M b (off + i * es' + j) = some y /\ RC S g c y := by
          rcases a9U hel (.sc _ _ hown.rel) with ⟨rfl, h⟩ | ⟨b2, off2, cap2, h, _, _, hM⟩
          ·intro i e j c hi; simp at hi
          ·cases h; exact hM
         have key : ∀ (i : Nat) (e : List C) (j : Nat), (l ++ m)[i]? = some e -> j < es' -> ∃ z c, g'.M b (off + i * es' + j) = some z /\ e[j]? = some c /\ RC S g' c z := by
          intro i e j hi hj
          have hel := hall e (List.mem_of_getElem? hi)
          have hej : e[j]? = some (e[j]'(by rw [hel]; exact hj)) := List.getElem?_eq_getElem _
          by_cases hil : i < l.length
          ·rw [List.getElem?_append_left hil] at hi
           obtain ⟨z, hz, hr⟩ := hMl i e j _ hi hej
           exact ⟨z, _, hMo _ _ _ hz, hej, hr.mono hgo.le⟩
          ·rw [List.getElem?_append_right (by omega)] at hi
           have hfl := flat_get hml (i - l.length) j hj
           rw [hi, Option.bind_some, hej] at hfl
           have hlt : (i - l.length) * es' + j < new.size := by rw [← hn.1]; exact (List.getElem?_eq_some_iff.1 hfl).1
           have hmul : i * es' = l.length * es' + (i - l.length) * es' := by rw [← Nat.add_mul]; congr 1; omega
           refine ⟨new[(i - l.length) * es' + j], _, ?_, hej, (hn.2 _ _ _ hfl (Array.getElem?_eq_getElem hlt)).mono hgo.le⟩
           have hin : off + l.length * es' <= off + i * es' + j /\ off + i * es' + j < off + l.length * es' + m.length * es' := by rw [hnsz] at hlt; omega
           simp only [g', true_and, if_pos hin]
           rw [show off + i * es' + j - (off + l.length * es') = (i - l.length) * es' + j from by omega]
           exact Array.getElem?_eq_getElem hlt
         refine .sl .shared es' (l ++ m) b off cap (fun i j => (g'.M b (off + i * es' + j)).getD undef) (by simp) (by simp) (by rw [List.length_append]; exact hfit) (fun i e hi => hall e (List.mem_of_getElem? hi)) (fun i e hi => hallp e (List.mem_of_getElem? hi)) (fun i e j hi hj => ?_) (fun i e j c hi hj => ?_)
         ·obtain ⟨z, c, hz, _⟩ := key i e j hi hj
          rw [hz]; rfl
         ·have hjl : j < es' := by rw [← hall e (List.mem_of_getElem? hi)]; exact (List.getElem?_eq_some_iff.1 hj).1
          obtain ⟨z, c', hz, hc', hr⟩ := key i e j hi hjl
          rw [hj] at hc'
          cases hc'
          rw [hz]; exact hr
        ·rw [List.length_append, Nat.add_mul] at hoo
         have hnot : ¬ (off + l.length * es' <= o /\ o < off + l.length * es' + m.length * es') := by omega
         simp only [g', true_and, if_neg hnot]
         exact hown.spare o (by omega)
      ·exact b1Q hR T hev rfl rfl hys (by omega) hroom hold hnew ho hn hall hallp [i]
   ·cases hc
  ·cases hc
theorem b3Y (hR : Rel S G g nt s a w) {a0 es : Nat} {x y : Rand} {x' y' : Operand} {t t2 : TypeId} (T : AppTy S t t2 es) (h1 : MR S G x x') (h2 : MR S G y y') (e : eff base s.h (rd S.Γ s.t) (.appendM a0 es x y) = some (v, ws)) :
 Does S G nt g s a w (.call { callee := .builtin .append, args := #[x', y'], argTypes := #[t, t2] }) [] v (a0I s.h ws) := by
 have hx := a0M hR h1
 have hy := a0M hR h2
 simp only [eff] at e
 split at e
 ·cases e
 ·rename_i m hm
  obtain ⟨new, hnew, hn, hml, hmp, p2, c2, hys, hp2⟩ := a5E hR.hp T.he hm hy
  split at e
  ·rename_i k es' l hxv
   split at e
   ·rename_i hes
    subst hes
    rw [hxv] at hx
    have hel : elems es' (.sc (.sl k es' l)) = some l := by simp [elems]
    obtain ⟨old, hold, ho, hll, hlp, p, c1, hxs, hp1⟩ := a5E hR.hp T.he hel hx
    cases m with
    | nil =>
     simp only [Option.some.injEq, Prod.mk.injEq] at e
     obtain ⟨rfl, rfl⟩ := e
     have hcap : l.length + 0 <= c1 := by
      rw [hxs] at hx
      cases hx with
      | sc _ _ h =>
       cases h with
       | slNil => exact Nat.le_refl 0
       | sl _ _ _ _ _ _ _ _ _ hcc => exact hcc
     have hnn : new = #[] := by
      have := hn.1
      simp at this
      exact Array.size_eq_zero_iff.1 this.symm
     refine fun o' ho' => ⟨a.eval x', _, w, g, a7y (S := S) ho' rfl rfl fun ty => ?_, .inl rfl, .drop hR [], .rv _ _ hx⟩
     rw [hxs, hys]
     have := a7a (S := S) (w := w) (w' := w) (ty := ty) (base := p) (p2 := p2) (c2 := c2) (n := 0) T hcap (by have := hnew w rfl; rw [hys] at this; exact this) (fun ad _ => by subst hnn; simp [storeCells]) (fun _ => rfl)
     simpa using this
    | cons m0 ms =>
     simp only at e
     split at e
     ·rename_i hcond
      obtain ⟨hfree, hk, hroom⟩ := hcond
      simp only [Option.some.injEq, Prod.mk.injEq] at e
      obtain ⟨rfl, rfl⟩ := e
      generalize hmm : m0 :: ms = m at *
      have hcap : c1 = l.length := by
       rw [hxs] at hx
       cases hx with
       | sc _ _ h =>
        cases h with
        | slNil => rfl
        | sl _ _ _ _ _ _ _ hk' hf =>
         cases k with
         | nil => exact absurd rfl hk'
         | full => exact hf rfl
         | shared => exact absurd rfl hk
      have hm1 : 0 < m.length := by rw [← hmm]; simp
      intro o' ho'
      obtain ⟨ncap, hnc, hrun⟩ := a9N (S := S) (w := w) (ty := o'.type) (base := p) (p2 := p2) (cap := c1) (c2 := c2) (old := old) (new := new) T (by omega) hroom
       (fun w' hw' => by have := hold w' hw'; rw [hxs] at this; exact this) (fun w' hw' => by have := hnew w' hw'; rw [hys] at this; exact this)
      have hl : ∀ e ∈ l ++ m, e.length = es' := fun e he => by rcases List.mem_append.1 he with h | h; exact hll e h; exact hml e h
      have hp : ∀ e ∈ l ++ m, C.a0v e = true := fun e he => by rcases List.mem_append.1 he with h | h; exact hlp e h; exact hmp e h
      have hlen : (l ++ m).flatten.length = (l.length + m.length) * es' := by rw [a2G hl, List.length_append]
      have hosz : old.size = l.length * es' := by rw [← ho.1, a2G fun e he => hl e (by simp [he])]
      have hnsz : new.size = m.length * es' := by rw [← hn.1, a2G fun e he => hl e (by simp [he])]
      generalize hvals : old ++ new ++ Builtin.zeroCells T.zv.cells (ncap - (l.length + m.length)) = vals at hrun
      have hvsz : vals.size = ncap * es' := by
       rw [← hvals]
       simp only [Array.size_append, hosz, hnsz, Builtin.zeroCells, Array.size_map, Array.size_range, T.hzs]
       rw [← Nat.add_mul, ← Nat.add_mul]
       congr 1; omega
      have hcells : ∀ (j : Nat) c z, (l ++ m).flatten[j]? = some c -> vals[j]? = some z -> RC S g c z := fun j c z hj hz => by
       rw [List.flatten_append] at hj
       by_cases hjl : j < l.flatten.length
       ·rw [List.getElem?_append_left hjl] at hj
        have hjo : j < old.size := by rw [← ho.1]; exact hjl
        rw [← hvals, Array.append_assoc, Array.getElem?_append_left hjo] at hz
        exact ho.2 j c z hj hz
       ·rw [List.getElem?_append_right (by omega)] at hj
        have hjn : j - l.flatten.length < new.size := by rw [← hn.1]; exact (List.getElem?_eq_some_iff.1 hj).1
        have e1 := ho.1
        rw [← hvals, Array.getElem?_append_left (by simp; omega), Array.getElem?_append_right (by omega), ← ho.1] at hz
        exact hn.2 _ c z hj hz
      have hex : (execOp a.eval o').run S.P w = .ok (.value (.slice (some ⟨w.heap.size, 0, none⟩) (l.length + m.length) ncap)) (w.drew.alloc (.cells vals T.e)) := by
       have := hrun
       simp [execOp, ho', resolve, invoke, builtin, hxs, hys, this]
      have hgd := Goes.grow hR (Grows.drew g w)
      have hRd : Rel S G g nt s a w.drew := hgd.rel
      have hfr := a3v hfree
      have hb := b1z (t := T.e) (vals := vals) hRd hfr (.inr ⟨by rw [hlen, hvsz]; exact Nat.mul_le_mul_right _ hnc, hcells⟩)
      have hrv : RV S (g.with (base + a0) w.drew.heap.size) (.sc (.msl (base + a0) 0 (l.length + m.length) 0 es')) (.slice (some ⟨w.heap.size, 0, none⟩) (l.length + m.length) ncap) := by
       have hσ : (g.with (base + a0) w.drew.heap.size).σ (base + a0) = w.heap.size := by simp [Gh.with]
       have := RC.msl (S := S) (g := g.with (base + a0) w.drew.heap.size) (base + a0) 0 (l.length + m.length) 0 es' ncap (.inl rfl) hnc (.inl rfl)
       rw [hσ] at this
       exact .sc _ _ this
      exact ⟨_, _, _, _, hex, .inl rfl, hgd.trans hb, .rv _ _ hrv⟩
     ·cases e
   ·cases e
  ·cases e
end
end Go.Pm
namespace Go.Pm
theorem bytes_eq {a b : ByteArray} (h : (a == b) = true) : a = b := by
 have : (a.data == b.data) = true := h
 cases a; cases b; simp_all
theorem b9R {t : Nat} {c d : C} (h : a0g t c d = some true) : c = d := by
 unfold a0g at h
 split at h
 ·simp at h; rw [h]
 ·split at h
  ·rename_i hk; subst hk; simp at h; rw [h]
  ·cases h
 ·simp only [Option.some.injEq] at h
  rw [bytes_eq h]
 ·cases h
theorem b1U {t : Nat} {ts : List Nat} {c d : C} {cs ds : List C} (h : a0c (t :: ts) (c :: cs) (d :: ds) = some true) : a0g t c d = some true /\ a0c ts cs ds = some true := by
 unfold a0c at h
 split at h
 ·rename_i x y h1 h2
  simp only [Option.some.injEq, Bool.and_eq_true] at h
  obtain ⟨rfl, rfl⟩ := h
  exact ⟨h1, h2⟩
 ·cases h
theorem a7W : ∀ {ts : List Nat} {cs ds : List C}, a0c ts cs ds = some true -> cs = ds
 | [], [], [], _ => rfl
 | t :: ts, c :: cs, d :: ds, h => by
  obtain ⟨h1, h2⟩ := b1U h
  rw [b9R h1, a7W h2]
 | [], _ :: _, _, h => by simp [a0c] at h
 | [], [], _ :: _, h => by simp [a0c] at h
 | _ :: _, [], _, h => by simp [a0c] at h
 | _ :: _, _ :: _, [], h => by simp [a0c] at h
section
variable {S : Seat} {G : List Nat} {g g' g'' : Gh} {nt : Nat} {s s' s'' : St} {a a' a'' : Act} {w w' w'' : World} {h : List Obj} {base : Nat} {v : V} {ws : List (Nat × Obj)} {takes : List Nat}
theorem a9F {t : Nat} {c d : C} {x y : Value} (h : a0g t c d = some true) (hx : RC S g c x) (hy : RC S g d y) (n : Nat) : Instr.sameBits n x y = true := by
 rcases a6f h hx hy with ⟨_, p, q, rfl, rfl, e⟩ | ⟨_, k, p, q, rfl, rfl, e⟩ | ⟨_, p, q, rfl, rfl, e⟩
 ·cases n <;> simp [Instr.sameBits] <;> simpa using e.symm
 ·cases n <;> simp [Instr.sameBits] <;> simpa using e.symm
 ·cases n <;> simp [Instr.sameBits] <;> exact e.symm
theorem b3g : ∀ {ts : List Nat} {cs ds : List C}, a0c ts cs ds = some true -> ∀ (j : Nat) c d, cs[j]? = some c -> ds[j]? = some d -> ∃ t, a0g t c d = some true
 | [], [], [], _, j, c, d, hc, _ => by simp at hc
 | t :: ts, c :: cs, d :: ds, h, j, c', d', hc, hd => by
  obtain ⟨h1, h2⟩ := b1U h
  rcases j with _ | j
  ·simp at hc hd; subst hc; subst hd; exact ⟨t, h1⟩
  ·exact b3g h2 j c' d' (by simpa using hc) (by simpa using hd)
 | [], _ :: _, _, h, _, _, _, _, _ => by simp [a0c] at h
 | [], [], _ :: _, h, _, _, _, _, _ => by simp [a0c] at h
 | _ :: _, [], _, h, _, _, _, _, _ => by simp [a0c] at h
 | _ :: _, _ :: _, [], h, _, _, _, _, _ => by simp [a0c] at h
theorem b0m {ty : KT} {d : Nat} {t : TypeId} {cs ds : List C} {x y : Value} (hf : flat S.P d t = some ty) (h : a0c ty.tags cs ds = some true) (hx : KR S g ty.agg cs x) (hy : KR S g ty.agg ds y) (w : World) :
 (Instr.keyThatStays y x).run S.P w = .ok x w := by
 have hb : Instr.sameBits 10000 y x = true := by
  have hsame := a7W h
  subst hsame
  cases hag : ty.agg with
  | false =>
   rw [hag] at hx hy
   obtain ⟨u, _, _, h1⟩ := flat_agg hf
   have hl := h1 hag
   obtain ⟨t', ht'⟩ : ∃ t', ty.tags = [t'] := by
    cases htt : ty.tags with
    | nil => rw [htt] at hl; simp at hl
    | cons t' ts => cases ts with
     | nil => exact ⟨t', rfl⟩
     | cons => rw [htt] at hl; simp at hl
   rw [ht'] at h
   obtain ⟨c, d', e1, e2, e3⟩ := a5e h
   subst e1
   simp at e2
   subst e2
   exact a9F e3 hy.a2C hx.a2C _
  | true =>
   rw [hag] at hx hy
   obtain ⟨xs, rfl, hlx, hrx⟩ := hx.a2T
   obtain ⟨ys, rfl, hly, hry⟩ := hy.a2T
   have hsz : ys.size = xs.size := by omega
   simp only [Instr.sameBits, Bool.and_eq_true, beq_iff_eq, hsz, true_and, List.all_eq_true]
   intro p hp
   obtain ⟨j, hj⟩ := List.getElem?_of_mem hp
   rw [List.getElem?_zip_eq_some] at hj
   obtain ⟨j1, j2⟩ := hj
   rw [Array.getElem?_toList] at j1 j2
   have hjl : j < cs.length := by rw [hly]; exact (Array.getElem?_eq_some_iff.1 j1).1
   obtain ⟨t', ht'⟩ := b3g h j _ _ (List.getElem?_eq_getElem hjl) (List.getElem?_eq_getElem hjl)
   exact a9F ht' (hry j _ _ (List.getElem?_eq_getElem hjl) j1) (hrx j _ _ (List.getElem?_eq_getElem hjl) j2) _
 simp [Instr.keyThatStays, hb]
def setBlock (w : World) (r : Nat) (o : Go.Obj) : World := { w with heap := w.heap.setIfInBounds r o }
theorem a4E {P : Program} {r : Nat} {es : Array MapEntry} {n : Nat} {o : Go.Obj} (h : w.heap[r]? = some (.map es n)) : (setObj r o).run P w = .ok () (setBlock w r o) := by
 simp [setObj, Sem.run, h, setBlock]
theorem a4D {P : Program} {r : Nat} {es : Array MapEntry} {n : Nat} (h : w.heap[r]? = some (.map es n)) : (getObj r).run P w = .ok (.map es n) w := by
 simp [getObj, Sem.run, h]
theorem a9G {r b : Nat} {o : Go.Obj} (h : b ≠ r) : (setBlock w r o).heap[b]? = w.heap[b]? := by
 simp only [setBlock, Array.getElem?_setIfInBounds]
 rw [if_neg (fun e => h e.symm)]
theorem b0l {r : Nat} {o : Go.Obj} (h : r < w.heap.size) : (setBlock w r o).heap[r]? = some o := by
 simp [setBlock, h]
theorem set_self {h : List Obj} {p : Nat} {o : Obj} (e : h[p]? = some o) : h.set p o = h := by
 apply List.ext_getElem?
 intro j
 by_cases hj : j = p
 ·subst hj
  have := (List.getElem?_eq_some_iff.1 e).1
  rw [List.getElem?_set_self this, e]
 ·rw [a5p hj]
theorem a7G {p : Nat} {x : Value} (h : RV S g (.sc (.map p)) x) : g.A p /\ x = .map (some (g.σ p)) := by
 have := h.a8W (by simp)
 cases this with
 | map r hA => exact ⟨hA, rfl⟩
theorem a7R {i n : Nat} {c : List C} {es : List MapEntry} {o : Option (Nat × Value)} (h : a8J i (some (n, c)) es o) : ∃ m, i <= n /\ es[n - i]? = some m /\ o = some (n, m.val) := h
end
end Go.Pm
namespace Go.Pm
def keyC (ks : List Int) : List C := ks.map (C.int .i64)
def setL (L : List (List Int)) : List (List C × List C) := L.map fun ks => (keyC ks, [.bool true])
def b7d : Value -> List Int
 | .agg vs => vs.toList.map fun x => match x with
  | .int _ n => n
  | _ => 0
 | _ => []
theorem a5k (ks : List Int) : b7d (a4O ks) = ks := by
 simp only [a4O, b7d, List.map_map]
 rw [show ((fun x : Value => match x with | .int _ n => n | _ => 0) ∘ Value.int .i64) = id from funext fun _ => rfl]
 simp
theorem b1X {a b : List Int} (h : a4O a = a4O b) : a = b := by rw [← a5k a, h, a5k]
structure SetIs (n : Nat) (f : List Int -> Bool) (es : List MapEntry) (L : List (List Int)) : Prop where
 len : L.length = es.length
 ent : ∀ (i : Nat) ks m, L[i]? = some ks -> es[i]? = some m -> ks.length = n /\ m.key = a4O ks /\ m.val = .bool true
 mem : ∀ ks, f ks = true <-> ks ∈ L
theorem a7s.list {n : Nat} {f : List Int -> Bool} {es : List MapEntry} (h : a7s n f es) : ∃ L, SetIs n f es L := by
 refine ⟨es.map fun m => b7d m.key, by simp, fun i ks m hi hm => ?_, fun ks => ?_⟩
 ·rw [List.getElem?_map, hm] at hi
  simp only [Option.map_some, Option.some.injEq] at hi
  obtain ⟨k, hl, hk, hv⟩ := h.1 m (List.mem_of_getElem? hm)
  rw [hk, a5k] at hi
  subst hi
  exact ⟨hl, hk, hv⟩
 ·rw [h.2 ks, List.mem_map]
  constructor
  ·rintro ⟨m, hm, hk⟩; exact ⟨m, hm, by rw [hk, a5k]⟩
  ·rintro ⟨m, hm, hk⟩
   obtain ⟨k, hl, hk', hv⟩ := h.1 m hm
   rw [hk', a5k] at hk
   subst hk
   exact ⟨m, hm, hk'⟩
theorem SetIs.es {n : Nat} {f : List Int -> Bool} {es : List MapEntry} {L : List (List Int)} (h : SetIs n f es L) : a7s n f es := by
 refine ⟨fun m hm => ?_, fun ks => ?_⟩
 ·obtain ⟨i, hi⟩ := List.getElem?_of_mem hm
  have hlt : i < L.length := by rw [h.len]; exact (List.getElem?_eq_some_iff.1 hi).1
  obtain ⟨a, b, c⟩ := h.ent i _ m (List.getElem?_eq_getElem hlt) hi
  exact ⟨_, a, b, c⟩
 ·rw [h.mem]
  constructor
  ·intro hm
   obtain ⟨i, hi⟩ := List.getElem?_of_mem hm
   have hlt : i < es.length := by rw [← h.len]; exact (List.getElem?_eq_some_iff.1 hi).1
   obtain ⟨a, b, c⟩ := h.ent i _ _ hi (List.getElem?_eq_getElem hlt)
   exact ⟨_, List.getElem_mem hlt, b⟩
  ·rintro ⟨m, hm, hk⟩
   obtain ⟨i, hi⟩ := List.getElem?_of_mem hm
   have hlt : i < L.length := by rw [h.len]; exact (List.getElem?_eq_some_iff.1 hi).1
   obtain ⟨a, b, c⟩ := h.ent i _ m (List.getElem?_eq_getElem hlt) hi
   rw [hk] at b
   rw [b1X b]; exact List.getElem_mem hlt
theorem b1V : ∀ (a b : List Int), a.length = b.length -> a0c (List.replicate a.length 1) (keyC a) (keyC b) = some (decide (a = b))
 | [], [], _ => rfl
 | x :: xs, y :: ys, h => by
  have ih := b1V xs ys (by simpa using h)
  simp only [keyC] at ih
  simp only [List.length_cons, List.replicate_succ, keyC, List.map_cons, a0c, a0g, if_true, ih, List.cons.injEq, Bool.decide_and]
  by_cases e : x = y <;> simp [e]
theorem b1b {n : Nat} {ks : List Int} (hk : ks.length = n) : ∀ (L : List (List Int)) (i : Nat), (∀ k ∈ L, k.length = n) →
 ∃ r, find (List.replicate n 1) (keyC ks) i (setL L) = some r /\ (ks ∈ L -> ∃ j, r = some (j, [.bool true])) /\ (ks ∉ L -> r = none)
 | [], i, _ => ⟨none, rfl, by simp, fun _ => rfl⟩
 | x :: L, i, h => by
  have hx := h x (by simp)
  have he := b1V ks x (by omega)
  rw [hk] at he
  obtain ⟨r, hr, h1, h2⟩ := b1b hk L (i + 1) fun k hk => h k (by simp [hk])
  by_cases e : ks = x
  ·refine ⟨some (i, [.bool true]), ?_, fun _ => ⟨i, rfl⟩, fun hn => absurd (by simp [e]) hn⟩
   rw [decide_eq_true e] at he
   simp only [setL, List.map_cons, find, he]
  ·refine ⟨r, ?_, fun hm => h1 (by simpa [e] using hm), fun hn => h2 (by simpa [e] using hn)⟩
   rw [decide_eq_false e] at he
   simp only [setL, List.map_cons, find, he]
   exact hr
theorem b3d : ∀ {cs : List C} {ks : List Int}, intsOf cs = some ks -> cs = keyC ks
 | [], ks, h => by simp [intsOf] at h; subst h; rfl
 | c :: cs, ks, h => by
  unfold intsOf at h
  split at h
  ·rename_i heq; cases heq
  ·rename_i n cs' heq
   simp only [List.cons.injEq] at heq
   obtain ⟨rfl, rfl⟩ := heq
   simp only [Option.map_eq_some_iff] at h
   obtain ⟨k, hk, rfl⟩ := h
   rw [b3d hk]; rfl
  ·cases h
theorem b1W {n : Nat} {v : V} {ks : List Int} (h : a6a n v = some ks) : v = .agg (keyC ks) /\ ks.length = n := by
 unfold a6a at h
 split at h
 ·rename_i cs
  split at h
  ·rename_i hl
   have := b3d h
   subst this
   exact ⟨rfl, by simpa [keyC] using hl⟩
  ·cases h
 ·cases h
section
variable {S : Seat} {G : List Nat} {g g' : Gh} {nt : Nat} {s : St} {a : Act} {w w' : World} {h : List Obj} {base : Nat} {v : V} {ws : List (Nat × Obj)}
theorem b2P (ks : List Int) : KR S g true (keyC ks) (a4O ks) := by
 refine ⟨ks.map (.int .i64), rfl, by simp [keyC], (fun h => by cases h), fun j c x hc hx => ?_⟩
 simp only [keyC, List.getElem?_map, Option.map_eq_some_iff] at hc hx
 obtain ⟨n, hn, rfl⟩ := hc
 obtain ⟨n', hn', rfl⟩ := hx
 rw [hn] at hn'
 cases hn'
 exact .int _ _
theorem b5V {ks : List Int} {x : Value} (h : RV S g (.agg (keyC ks)) x) : x = a4O ks := by
 cases h with
 | agg _ vals hs hr =>
  simp only [a4O]
  congr 1
  apply Array.ext'
  apply List.ext_getElem?
  intro j
  simp only [List.getElem?_map, Array.getElem?_toList]
  cases hj : ks[j]? with
  | none =>
   have : vals.size <= j := by rw [← hs]; simpa [keyC] using List.getElem?_eq_none_iff.1 hj
   simp [this]
  | some n =>
   have hlt : j < vals.size := by rw [← hs]; simpa [keyC] using (List.getElem?_eq_some_iff.1 hj).1
   have := hr j (.int .i64 n) vals[j] (by simp [keyC, hj]) (Array.getElem?_eq_getElem hlt)
   rw [Array.getElem?_eq_getElem hlt]
   generalize vals[j] = y at this
   cases this
   rfl
theorem SetIs.ents {n : Nat} {f : List Int -> Bool} {es : List MapEntry} {L : List (List Int)} (h : SetIs n f es L) : Ents S g true false (setL L) es := by
 refine ⟨by simp [setL, h.len], fun i e m he hm => ?_⟩
 simp only [setL, List.getElem?_map, Option.map_eq_some_iff] at he
 obtain ⟨ks, hks, rfl⟩ := he
 obtain ⟨h1, h2, h3⟩ := h.ent i ks m hks hm
 rw [h2, h3]
 refine ⟨b2P ks, [.bool true], rfl, rfl, fun _ => rfl, fun j c x hc hx => ?_⟩
 cases j with
 | zero => simp at hc hx; subst hc; subst hx; exact .bool _
 | succ j => simp at hc
theorem b9B {m : V} {x : Value} {n : Nat} {f : List Int -> Bool} (hR : RelH S G g h w) (hm : RV S g m x) (e : setOf h m = some (n, f)) :
 ∃ b k es, x = .map (some b) /\ w.heap[b]? = some (.map es k) /\ a7s n f es.toList := by
 unfold setOf at e
 split at e
 ·simp only [Option.some.injEq, Prod.mk.injEq] at e
  obtain ⟨rfl, rfl⟩ := e
  have := hm.a8W (by simp)
  cases this with
  | iset n f r es hN hb hE =>
   obtain ⟨k, hk, -⟩ := hR.mm r es hN
   exact ⟨r, k, es, rfl, hk, hE⟩
 ·rename_i p
  have := hm.a8W (by simp)
  cases this with
  | map r hA =>
   split at e
   ·rename_i n' f' hp
    simp only [Option.some.injEq, Prod.mk.injEq] at e
    obtain ⟨rfl, rfl⟩ := e
    obtain ⟨es, h1, h2, h3⟩ := hR.ob p _ hp
    exact ⟨_, _, es, rfl, h1, h3⟩
   ·cases e
 ·cases e
theorem b9G (hR : Rel S G g nt s a w) {n : Nat} {m key : Rand} {t kt et : TypeId} {m' key' : Operand} {d : Nat} (h1 : MR S G m m') (h2 : MR S G key key')
 (hu : S.P.underlying t = some (.map kt et)) (hz : a7g S.P et (.sc (.bool false))) (hf : flat S.P d kt = some ⟨true, List.replicate n 1⟩) (hd : d <= 100)
 (e : eff base s.h (rd S.Γ s.t) (.slook n m key) = some (v, ws)) : ws = [] /\ Looks S g a w (.lookup t m' key' false) v := by
 have hm := a0M hR h1
 have hk := a0M hR h2
 simp only [eff] at e
 split at e
 ·rename_i n' f ks hset hks
  split at e
  ·rename_i hn
   subst hn
   simp only [Option.some.injEq, Prod.mk.injEq] at e
   obtain ⟨rfl, rfl⟩ := e
   obtain ⟨hv, hlen⟩ := b1W hks
   rw [hv] at hk
   have hkx := b5V hk
   obtain ⟨b, k, es, hx, hb, hE⟩ := b9B hR.hp hm hset
   obtain ⟨L, hL⟩ := hE.list
   obtain ⟨r, hr, r1, r2⟩ := b1b hlen L 0 (fun k hk => by
    obtain ⟨i, hi⟩ := List.getElem?_of_mem hk
    have hlt : i < es.toList.length := by rw [← hL.len]; exact (List.getElem?_eq_some_iff.1 hi).1
    exact (hL.ent i k _ hi (List.getElem?_eq_getElem hlt)).1)
   have kr : KR S g true (keyC ks) (a.eval key') := by rw [hkx]; exact b2P ks
   obtain ⟨y, bb, hrun, ht⟩ := b1Z (w := w) (ok := false) (va := false) (z := .sc (.bool false)) hu hz hf hd (.inr ⟨b, k, es, hx, hb, rfl⟩) hL.ents kr (by simp [keyC, hlen]) hr
   refine ⟨rfl, fun o ho => ⟨y, by simp only [execOp, ho, Sem.run_bind, hrun]; rfl, ?_⟩⟩
   cases hfk : f ks with
   | true =>
    obtain ⟨j, rfl⟩ := r1 ((hL.mem ks).1 hfk)
    exact .sc _ _ ht.2.a2C
   | false =>
    obtain rfl := r2 fun hm => by rw [(hL.mem ks).2 hm] at hfk; cases hfk
    exact ht.2
  ·cases e
 ·cases e
end
end Go.Pm
namespace Go.Pm
section
variable {S : Seat} {G : List Nat} {g g' : Gh} {nt : Nat} {s : St} {a : Act} {w w' : World} {h : List Obj} {base : Nat} {v : V} {ws : List (Nat × Obj)}
theorem Goes.b8h (hR : Rel S G g nt s a w) {p n n' : Nat} {f f' : List Int -> Bool} {es : Array MapEntry} (hp : s.h[p]? = some (.set n f))
 (h1 : ∀ (i : Nat) m, es[i]? = some m -> m.born = i) (h2 : a7s n' f' es.toList) :
 Goes S G nt g g s { t := Pm.drop [] s.t, h := s.h.set p (.set n' f') } a a w (setBlock w (g.σ p) (.map es es.size)) := by
 have hlt := a3e hR.hp hp rfl
 refine Goes.modify (takes := []) (off0 := 0) hR hp rfl rfl (fun b hb => a9G hb) (by simp [setBlock]) rfl rfl rfl ⟨es, b0l hlt, h1, h2⟩ ?_
 rintro j b ⟨cs, es, l, vals, elem, fr, ad, m, cap, e1, _⟩
 have hplt : p < s.h.length := (List.getElem?_eq_some_iff.1 hp).1
 simp [hplt] at e1
theorem b6F (hR : Rel S G g nt s a w) {p n : Nat} {t : TypeId} (e : eff base s.h (rd S.Γ s.t) (.mkset p n) = some (v, ws)) : Does S G nt g s a w (.makeMap t none) [] v (a0I s.h ws) := by
 simp only [eff] at e
 split at e
 ·rename_i hc
  simp only [Option.some.injEq, Prod.mk.injEq] at e
  obtain ⟨rfl, rfl⟩ := e
  have hp := a3v hc
  have hσ : (g.with (base + p) w.heap.size).σ (base + p) = w.heap.size := by simp [Gh.with]
  refine fun o' ho' => ⟨.map (some w.heap.size), _, w.alloc (.map #[] 0), _, by simp [execOp, ho', Instr.makeMap, newObj, Sem.run, World.alloc_eq], .inl rfl,
   Goes.born (takes := []) (off0 := 0) hR hp rfl ⟨#[], heap_alloc_new _ _, fun i m h => by simp at h, ⟨fun m h => by simp at h, fun ks => by simp⟩⟩ ?_, .rv _ _ (.sc _ _ ?_)⟩
  ·rintro j b ⟨cs, es, l, vals, elem, fr, ad, m, cap, e1, _⟩
   have hplt : base + p < s.h.length := (List.getElem?_eq_some_iff.1 hp).1
   simp [hplt] at e1
  ·have := RC.map (S := S) (g := g.with (base + p) w.heap.size) (base + p) (.inl rfl)
   rw [hσ] at this
   exact this
 ·cases e
theorem b3w (hR : Rel S G g nt s a w) {n : Nat} {m key : Rand} {t kt et : TypeId} {m' key' : Operand} {d : Nat} {o : Go.Op} (ho : o = .mapUpdate t m' key' (.const (.bool true)) \/ o = .insert t m' key' (.const (.bool true))) (h1 : MR S G m m') (h2 : MR S G key key')
 (hu : S.P.underlying t = some (.map kt et)) (hf : flat S.P d kt = some ⟨true, List.replicate n 1⟩) (hd : d <= 100)
 (e : eff base s.h (rd S.Γ s.t) (.sadd n m key) = some (v, ws)) : Does S G nt g s a w o [] v (a0I s.h ws) := by
 have hm := a0M hR h1
 have hk := a0M hR h2
 have fin : ∀ W : World, (Instr.mapUpdate t (a.eval m') (a.eval key') (.bool true)).run S.P w = .ok () W -> ∀ o' : Go.Oper, o'.op = o -> (execOp a.eval o').run S.P w = .ok .skip W := fun W hW o' ho' => by
  rw [show Value.bool true = a.eval (.const (.bool true)) from rfl] at hW
  rcases ho with rfl | rfl <;> simp [execOp, ho', hW]
 simp only [eff] at e
 split at e
 ·rename_i p ks hp hks
  rw [hp] at hm
  obtain ⟨hA, hx⟩ := a7G hm
  obtain ⟨hv, hlen⟩ := b1W hks
  rw [hv] at hk
  have hkx := b5V hk
  have kr : KR S g true (keyC ks) (a.eval key') := by rw [hkx]; exact b2P ks
  split at e
  ·rename_i n' f hobj
   split at e
   ·rename_i hn
    subst hn
    simp only [Option.some.injEq, Prod.mk.injEq] at e
    obtain ⟨rfl, rfl⟩ := e
    obtain ⟨es, hb, hborn, hE⟩ := hR.hp.ob p _ hobj
    obtain ⟨L, hL⟩ := hE.list
    have hck : (Instr.checkKey false 10000 kt (a.eval key')).run S.P w = .ok () w := a6j d kt _ hf 10000 (by omega) w _ _ kr (by simp [keyC, hlen])
    have hlt := a3e hR.hp hobj rfl
    have hLn : ∀ k ∈ L, k.length = n' := fun k hk => by
     obtain ⟨i, hi⟩ := List.getElem?_of_mem hk
     have hlt : i < es.toList.length := by rw [← hL.len]; exact (List.getElem?_eq_some_iff.1 hi).1
     exact (hL.ent i k _ hi (List.getElem?_eq_getElem hlt)).1
    obtain ⟨r, hr, r1, r2⟩ := b1b hlen L 0 hLn
    obtain ⟨o1, ho1, hfd⟩ := a4S hf hd kr w hL.ents.keys hr
    have hy : RV S g (.tup []) undef := .tup [] #[] rfl fun j v w a b => by simp at a
    by_cases hmem : ks ∈ L
    ·obtain ⟨i, rfl⟩ := r1 hmem
     obtain ⟨me, _, hme, rfl⟩ := a7R hfd
     obtain ⟨_, en, hen, _, heq⟩ := find_spec _ 0 i _ hr
     rw [Nat.sub_zero] at hen hme
     have hst := b0m hf heq kr (hL.ents.2 i en me hen hme).1 w
     rw [Array.getElem?_toList] at hme
     have hiks : L[i]? = some ks := by
      simp only [setL, List.getElem?_map, Option.map_eq_some_iff] at hen
      obtain ⟨k, hk1, rfl⟩ := hen
      have := a7W heq
      rw [hk1]
      have hinj : keyC ks = keyC k -> ks = k := fun h => by
       have := congrArg (List.map fun c => match c with | C.int _ n => n | _ => 0) h
       simp only [keyC, List.map_map] at this
       rw [show ((fun c : C => match c with | C.int _ n => n | _ => 0) ∘ C.int .i64) = id from funext fun _ => rfl] at this
       simpa using this
      rw [hinj this]
     have hgo := Goes.b8h (n' := n') (f' := fun x => f x || decide (x = ks)) (es := es.modify i fun e => { e with key := a.eval key', val := .bool true }) hR hobj (fun j m hj => by
      rw [Array.getElem?_modify] at hj
      split at hj
      ·simp only [Option.map_eq_some_iff] at hj
       obtain ⟨m0, hm0, rfl⟩ := hj
       exact hborn j m0 hm0
      ·exact hborn j m hj) (SetIs.es (L := L) ⟨by simp [hL.len], fun j k m hj hjm => by
      rw [Array.getElem?_toList, Array.getElem?_modify] at hjm
      split at hjm
      ·rename_i hij
       subst hij
       simp only [Option.map_eq_some_iff] at hjm
       obtain ⟨m0, hm0, rfl⟩ := hjm
       rw [hiks] at hj
       cases hj
       exact ⟨hlen, hkx, rfl⟩
      ·exact hL.ent j k m hj (by rw [Array.getElem?_toList]; exact hjm), fun k => by
      simp only [Bool.or_eq_true, decide_eq_true_eq, hL.mem]
      constructor
      ·rintro (h | rfl)
       ·exact h
       ·exact hmem
      ·exact .inl⟩)
     exact fun o' ho' => ⟨undef, _, _, g, fin _ (by simp [Instr.mapUpdate, run_underlying hu, hx, a4D hb, hck, ho1, hme, hst, a4E hb]; rfl) o' ho', .inr ⟨rfl, rfl⟩, by simpa [a0I] using hgo, .rv _ _ hy⟩
    ·obtain rfl := r2 hmem
     have : o1 = none := hfd
     subst this
     have hgo := Goes.b8h (n' := n') (f' := fun x => f x || decide (x = ks)) (es := es.push { key := a.eval key', val := .bool true, born := es.size }) hR hobj (fun j m hj => by
      rw [Array.getElem?_push] at hj
      split at hj
      ·rename_i hij; simp at hj; subst hj; exact hij.symm
      ·exact hborn j m hj) (SetIs.es (L := L ++ [ks]) ⟨by simp [hL.len], fun j k m hj hjm => by
      rw [Array.toList_push] at hjm
      by_cases hjl : j < L.length
      ·rw [List.getElem?_append_left hjl] at hj
       rw [List.getElem?_append_left (by rw [← hL.len]; exact hjl)] at hjm
       exact hL.ent j k m hj hjm
      ·rw [List.getElem?_append_right (by omega)] at hj
       rw [List.getElem?_append_right (by rw [← hL.len]; omega)] at hjm
       rw [← hL.len] at hjm
       cases hd : j - L.length with
       | zero =>
        rw [hd] at hj hjm
        simp at hj hjm
        subst hj; subst hjm
        exact ⟨hlen, hkx, rfl⟩
       | succ q => rw [hd] at hj; simp at hj, fun k => by
      simp only [Bool.or_eq_true, decide_eq_true_eq, hL.mem, List.mem_append, List.mem_singleton]⟩)
     exact fun o' ho' => ⟨undef, _, _, g, fin _ (by simp [Instr.mapUpdate, run_underlying hu, hx, a4D hb, hck, ho1, a4E hb]; rfl) o' ho', .inr ⟨rfl, rfl⟩, by simpa [a0I] using hgo, .rv _ _ hy⟩
   ·cases e
  ·cases e
 ·cases e
theorem b9w (hR : Rel S G g nt s a w) {p : Nat} {x : Rand} {t kt et : TypeId} {x' : Operand} (h1 : MR S G x x') (hu : S.P.underlying t = some (.map kt et))
 (e : eff base s.h (rd S.Γ s.t) (.rng p x) = some (v, ws)) : Does S G nt g s a w (.range t x') [] v (a0I s.h ws) := by
 have hx := a0M hR h1
 simp only [eff] at e
 split at e
 ·rename_i n f hxv
  rw [hxv] at hx
  split at e
  ·rename_i hc
   simp only [Option.some.injEq, Prod.mk.injEq] at e
   obtain ⟨rfl, rfl⟩ := e
   have hp := a3v hc
   have hc := hx.a8W (by simp)
   generalize hav : a.eval x' = xv at hc
   cases hc with
   | iset n f r es hN hb hE =>
    obtain ⟨k, hk, rfl⟩ := hR.hp.mm r es hN
    have hσ : (g.with (base + p) w.heap.size).σ (base + p) = w.heap.size := by simp [Gh.with]
    refine fun o' ho' => ⟨.pointer (some ⟨w.heap.size, 0, none⟩), _, w.alloc (.mapIter (some r) es.size #[] es.size), _, by simp [execOp, ho', hav, run_range_map w t kt et r es _ hu hk], .inl rfl,
     Goes.born (takes := []) (off0 := 0) hR hp rfl ⟨es, r, heap_alloc_new _ _, hN, hb, hE⟩ ?_, .rv _ _ (.sc _ _ ?_)⟩
    ·rintro j b ⟨cs, es, l, vals, elem, fr, ad, m, cap, e1, _⟩
     have hplt : base + p < s.h.length := (List.getElem?_eq_some_iff.1 hp).1
     simp [hplt] at e1
    ·have := RC.ptr (S := S) (g := g.with (base + p) w.heap.size) (base + p) 0 (.inl rfl)
     rw [hσ] at this
     exact this
  ·cases e
 ·cases e
end
end Go.Pm
namespace Go.Pm
def b0A : Act := { tmps := #[], defers := [] }
abbrev a6h (S : Seat) (G : List Nat) (g g' : Gh) (h h' : List Obj) (w w' : World) : Prop := Goes S G 0 g g' ⟨[], h⟩ ⟨[], h'⟩ b0A b0A w w'
section
variable {S : Seat} {G : List Nat} {g g' g'' : Gh} {nt : Nat} {s s' s'' : St} {a a' a'' : Act} {w w' w'' : World} {h h' : List Obj}
theorem a5z {i b : Nat} : ¬ a0S [] b0A.tmps i b := by
 rintro ⟨es, l, ad, n, cap, h1, _⟩
 simp [get] at h1
theorem a4p {b : Nat} (hp : Perm g ⟨[], h⟩ b0A w b) : a9f g h w b := by
 rcases hp with h | ⟨i, h⟩
 ·exact h
 ·exact absurd h a5z
theorem RelH.rel (hR : RelH S G g h w) : Rel S G g 0 ⟨[], h⟩ b0A w :=
 ⟨hR, rfl, fun i => .rv _ _ (.top _), fun i i' b c => absurd c a5z, fun i b r j c => absurd c a5z, fun i b r o c => absurd c a5z⟩
theorem a6P (hR : Rel S G g nt s a w) {i b : Nat} (hc : a0S s.t a.tmps i b) : ¬ a9f g s.h w b := by
 rintro (⟨r, o, h1, h2, h3⟩ | ⟨r, j, h⟩)
 ·exact hR.clT i b r o hc h1 h2 h3
 ·exact hR.exTH i b r j hc h
theorem Goes.frame (hR : Rel S G g nt s a w) (hg : a6h S G g g' s.h h' w w') : Goes S G nt g g' s ⟨s.t, h'⟩ a a w w' := by
 have hback : ∀ b, b < w.heap.size -> a9f g' h' w' b -> a9f g s.h w b := fun b hb hp => a4p (hg.back b hb (.inl hp))
 refine ⟨hg.le, ⟨hg.rel.hp, hR.sz, fun i => ?_, hR.exT, fun i b r j c d => ?_, fun i b r o c e hl => ?_⟩, hg.keeps.mono fun b _ hp => .inl (a4p hp), fun b hb hp => ?_, fun b o v e => ?_, fun b es e => ?_⟩
 ·have ht := hR.tm i
  show RT S g' w' (get s.t i) (a.tmps.getD i undef)
  generalize hv : get s.t i = v at ht
  generalize hx : a.tmps.getD i undef = x at ht
  cases ht with
  | rv _ _ h => exact .rv _ _ (h.mono hg.le)
  | own es l b off cap ho =>
   have hc : a0S s.t a.tmps i b := ⟨es, l, _, _, _, hv, hx, rfl⟩
   have hn := a6P hR hc
   refine .own _ _ _ _ _ ⟨ho.rel.mono hg.le, ?_, fun o hoo => ?_⟩
   ·rw [hg.keeps.same b ho.lt (fun hp => hn (a4p hp))]; exact ho.blk
   ·cases e : g'.M b o with
    | none => rfl
    | some v' =>
     rcases hg.im b o v' e with h | h | h
     ·rw [ho.spare o hoo] at h; cases h
     ·have := ho.lt; omega
     ·exact absurd (a4p h) hn
 ·exact a6P hR c (hback b (a8e hR c) (.inr ⟨r, j, d⟩))
 ·rintro rfl
  exact a6P hR c (hback _ (a8e hR c) (.inl ⟨r, o, e, hl, rfl⟩))
 ·rcases hp with h | h
  ·exact .inl (hback b hb h)
  ·exact .inr h
 ·rcases hg.im b o v e with h | h | h
  ·exact .inl h
  ·exact .inr (.inl h)
  ·exact .inr (.inr (.inl (a4p h)))
 ·rcases hg.mm b es e with h | h | h
  ·exact .inl h
  ·exact .inr (.inl h)
  ·exact .inr (.inr (.inl (a4p h)))
/-! ### Objects that die become values -/
def b0b : Obj -> Bool
 | .map _ _ _ none => true
 | .set _ _ => true
 | _ => false
theorem b0M {o : Obj} (h : b0b o = true) : live o = true := by cases o <;> simp [b0b, live] at h ⊢
theorem b5u (hR : RelH S G g h w) {r : Nat} {o : Obj} (hr : h[r]? = some o) (hm : b0b o = true) : ∃ es : Array MapEntry, w.heap[g.σ r]? = some (.map es es.size) := by
 have ho := hR.ob r o hr
 cases o with
 | map ka va l ph => obtain ⟨es, hb, _⟩ := ho; exact ⟨es, hb⟩
 | set n f => obtain ⟨es, hb, _⟩ := ho; exact ⟨es, hb⟩
 | _ => simp [b0b] at hm
open Classical in
noncomputable def Gh.kill (g : Gh) (h : List Obj) (w : World) (D : Nat -> Prop) (A : Nat -> Prop) : Gh where
 σ := g.σ
 A := A
 M := fun b o => if ∃ (r : Nat) (cs : List C), D r /\ h[r]? = some (.var cs) /\ g.σ r = b then w.cell? ⟨b, o, none⟩ else g.M b o
 N := fun b => if ∃ (r : Nat) (o : Obj), D r /\ h[r]? = some o /\ b0b o = true /\ g.σ r = b then
  (match w.heap[b]? with | some (.map es _) => some es | _ => none) else g.N b
theorem a3O (hR : RelH S G g h w) {D A : Nat -> Prop} {b o : Nat} {v : Value} (e : g.M b o = some v) : (g.kill h w D A).M b o = some v := by
 simp only [Gh.kill]
 split
 ·exact hR.im b o v e
 ·exact e
theorem a3A (hR : RelH S G g h w) {D A : Nat -> Prop} {b : Nat} {es : Array MapEntry} (e : g.N b = some es) : (g.kill h w D A).N b = some es := by
 simp only [Gh.kill]
 split
 ·obtain ⟨n, hn, -⟩ := hR.mm b es e
  rw [hn]
 ·exact e
theorem b2Q (hR : RelH S G g h w) {D A : Nat -> Prop} (hA : ∀ r, g.A r -> A r) : g.Le (g.kill h w D A) :=
 ⟨hA, fun _ _ => rfl, fun _ _ _ e => a3O hR e, fun _ _ e => a3A hR e⟩
structure Dies (h h' : List Obj) (D A : Nat -> Prop) (g : Gh) : Prop where
 left : ∀ (r : Nat) o, h'[r]? = some o -> live o = true -> h[r]? = some o /\ ¬ D r
 as : ∀ r, A r -> ∃ o, h'[r]? = some o /\ a6U o = false
 lv : ∀ (r : Nat) o, h'[r]? = some o -> live o = true -> A r
 AA : ∀ r, A r -> g.A r
 /-- what is left names nothing that is no more -/
 nm : ∀ (r : Nat) o, h'[r]? = some o -> live o = true -> ∃ n, Obj.und n o /\ ∀ r', r' < n -> g.A r' -> A r'
theorem b5v (hR : RelH S G g h w) {D A : Nat -> Prop} {r : Nat} {o : Obj} (hr : h[r]? = some o) (hl : live o = true) (hD : ¬ D r) (k : Nat) : (g.kill h w D A).M (g.σ r) k = none := by
 simp only [Gh.kill]
 split
 ·rename_i hx
  obtain ⟨r', cs, h1, h2, h3⟩ := hx
  have := hR.inj r' r _ o h2 hr rfl hl h3
  subst this
  exact absurd h1 hD
 ·exact hR.djM r o hr hl k
theorem b5w (hR : RelH S G g h w) {D A : Nat -> Prop} {r : Nat} {o : Obj} (hr : h[r]? = some o) (hl : live o = true) (hD : ¬ D r) : (g.kill h w D A).N (g.σ r) = none := by
 simp only [Gh.kill]
 split
 ·rename_i hx
  obtain ⟨r', o', h1, h2, hm, h3⟩ := hx
  have := hR.inj r' r _ o h2 hr (b0M hm) hl h3
  subst this
  exact absurd h1 hD
 ·exact hR.djN r o hr hl
theorem a6p {D A : Nat -> Prop} {b : Nat} (hb : ∀ (r : Nat) o, h[r]? = some o -> live o = true -> g.σ r ≠ b) (k : Nat) : (g.kill h w D A).M b k = g.M b k := by
 simp only [Gh.kill]
 split
 ·rename_i hx
  obtain ⟨r', cs, h1, h2, h3⟩ := hx
  exact absurd h3 (hb r' _ h2 rfl)
 ·rfl
theorem RC.keep {c : C} {v : Value} {n : Nat} (h : RC S g c v) (hu : c.under n = true) (hA : ∀ r, r < n -> g.A r -> g'.A r) (hσ : g'.σ = g.σ) (hM : ∀ b o v, g.M b o = some v -> g'.M b o = some v) (hN : ∀ b es, g.N b = some es -> g'.N b = some es) : RC S g' c v := by
 have h1 := h.cut hu
 refine h1.mono ⟨fun r hr => hA r hr.2 hr.1, fun r _ => by rw [hσ]; rfl, hM, hN⟩
theorem RV.keep {c : V} {v : Value} {n : Nat} (h : RV S g c v) (hu : c.under n = true) (hA : ∀ r, r < n -> g.A r -> g'.A r) (hσ : g'.σ = g.σ) (hM : ∀ b o v, g.M b o = some v -> g'.M b o = some v) (hN : ∀ b es, g.N b = some es -> g'.N b = some es) : RV S g' c v := by
 have h1 := h.cut hu
 refine h1.mono ⟨fun r hr => hA r hr.2 hr.1, fun r _ => by rw [hσ]; rfl, hM, hN⟩
theorem RelH.kill (hR : RelH S G g h w) {D A : Nat -> Prop} (hd : Dies h h' D A g) : RelH S G (g.kill h w D A) h' w := by
 have hcl : ∀ r j b, a1e (g.kill h w D A) h' w r j b -> a1e g h w r j b := by
  rintro r j b ⟨cs, es, l, vals, elem, fr, ad, n, cap, h1, h2, h3, h4, h5⟩
  exact ⟨cs, es, l, vals, elem, fr, ad, n, cap, (hd.left r _ h1 rfl).1, h2, h3, h4, h5⟩
 refine ⟨fun r o e => ?_, hd.as, hd.lv, fun r r' o o' e e' hl hl' hs => hR.inj r r' o o' (hd.left r o e hl).1 (hd.left r' o' e' hl').1 hl hl' hs, fun b k v e => ?_, fun b es e => ?_, fun r o e hl k => b5v hR (hd.left r o e hl).1 hl (hd.left r o e hl).2 k,
  fun r o e hl => b5w hR (hd.left r o e hl).1 hl (hd.left r o e hl).2, fun id hid => ?_, fun r j r' j' b c c' => hR.ex r j r' j' b (hcl _ _ _ c) (hcl _ _ _ c'), fun r j b r' o c e hl => hR.cl r j b r' o (hcl _ _ _ c) (hd.left r' o e hl).1 hl⟩
 ·by_cases hl : live o = true
  ·obtain ⟨e0, hD⟩ := hd.left r o e hl
   have ho := hR.ob r o e0
   obtain ⟨n, hord, hA⟩ := hd.nm r o e hl
   cases o with
   | dead => trivial
   | free => trivial
   | var cs =>
    obtain ⟨vals, elem, hb, hs, hro⟩ := ho
    refine ⟨vals, elem, hb, hs, fun j c x e1 e2 => ?_⟩
    have := hro j c x e1 e2
    cases this with
    | rc _ _ hrc => exact .rc _ _ (hrc.keep (a7B hord e1) hA rfl (fun _ _ _ e => a3O hR e) (fun _ _ e => a3A hR e))
    | own es l b off cap hown =>
     have hclm : a1e g h w r j b := ⟨cs, es, l, vals, elem, (0, 0), _, _, _, e0, e1, hb, e2, rfl⟩
     exact .own _ _ _ _ _ ⟨hown.rel.a3I (by rfl) (fun _ _ _ e => a3O hR e) (fun _ _ e => a3A hR e), hown.blk, fun k hk => by
      rw [a6p (fun r' o' e' hl' => hR.cl r j b r' o' hclm e' hl')]; exact hown.spare k hk⟩
   | map ka va l ph =>
    obtain ⟨es, hb, h3, h4, h5, h6⟩ := ho
    have kr : ∀ {agg cs v}, C.a0v cs = true -> KR S g agg cs v -> KR S (g.kill h w D A) agg cs v := fun hp ⟨vs, k1, k2, k3, k4⟩ =>
     ⟨vs, k1, k2, k3, fun j c x a b => (k4 j c x a b).a3I (a2d hp a) (fun _ _ _ e => a3O hR e) (fun _ _ e => a3A hR e)⟩
    exact ⟨es, hb, h3, h4, fun i e m a b => let ⟨x, y, z1, z2⟩ := h5 i e m a b; ⟨kr z1 x, kr z2 y, z1, z2⟩, fun p z m a b => let ⟨x, y, z1, z2⟩ := h6 p z m a b; ⟨kr z1 x, kr z2 y, z1, z2⟩⟩
   | set n f => exact ho
   | iter n f =>
    obtain ⟨es, r', hb, h0, h3, h4⟩ := ho
    exact ⟨es, r', hb, a3A hR h0, h3, h4⟩
   | loop st pend t ps x y =>
    obtain ⟨L, n', hb, h3, h4, h5, h6, h7, h8, h9, h10⟩ := ho
    refine ⟨L, n', hb, h3, h4, h5, h6, h7, h8, fun i => ?_, h10⟩
    have hi := h9 i
    have hu := hord i
    exact hi.keep hu hA rfl (fun _ _ _ e => a3O hR e) (fun _ _ e => a3A hR e)
  ·cases o <;> first | trivial | exact absurd rfl hl
 ·simp only [Gh.kill] at e
  split at e
  ·exact e
  ·exact hR.im b k v e
 ·simp only [Gh.kill] at e
  split at e
  ·rename_i hx
   obtain ⟨r', o', h1, h2, hm, rfl⟩ := hx
   obtain ⟨es', hes⟩ := b5u hR h2 hm
   rw [hes] at e
   simp only [Option.some.injEq] at e
   subst e
   exact ⟨_, hes, rfl⟩
  ·exact hR.mm b es e
 ·exact (hR.gl id hid).a3I (by rfl) (fun _ _ _ e => a3O hR e) (fun _ _ e => a3A hR e)
/-! ### Room for what a region allocates -/
theorem b4U {n r : Nat} {o : Obj} (e : (h ++ List.replicate n .free)[r]? = some o) : h[r]? = some o \/ o = .free := by
 by_cases hr : r < h.length
 ·rw [List.getElem?_append_left hr] at e; exact .inl e
 ·rw [List.getElem?_append_right (by omega)] at e
  exact .inr (List.eq_of_mem_replicate (List.mem_of_getElem? e))
theorem Goes.room (hR : Rel S G g nt s a w) (n : Nat) : Goes S G nt g g s { s with h := s.h ++ List.replicate n .free } a a w w := by
 have hlv : ∀ (r : Nat) o, (s.h ++ List.replicate n .free)[r]? = some o -> live o = true -> s.h[r]? = some o := fun r o e hl => by
  rcases b4U e with h | rfl
  ·exact h
  ·simp [live] at hl
 have hcl : ∀ r j b, a1e g (s.h ++ List.replicate n .free) w r j b -> a1e g s.h w r j b := by
  rintro r j b ⟨cs, es, l, vals, elem, fr, ad, m, cap, h1, h2⟩
  exact ⟨cs, es, l, vals, elem, fr, ad, m, cap, hlv r _ h1 rfl, h2⟩
 refine ⟨.refl g, ⟨⟨fun r o e => ?_, fun r hA => ?_, fun r o e hl => hR.hp.lv r o (hlv r o e hl) hl, fun r r' o o' e e' hl hl' hs => hR.hp.inj r r' o o' (hlv r o e hl) (hlv r' o' e' hl') hl hl' hs, hR.hp.im, hR.hp.mm,
  fun r o e hl => hR.hp.djM r o (hlv r o e hl) hl, fun r o e hl => hR.hp.djN r o (hlv r o e hl) hl, hR.hp.gl, fun r j r' j' b c c' => hR.hp.ex r j r' j' b (hcl _ _ _ c) (hcl _ _ _ c'), fun r j b r' o c e hl => hR.hp.cl r j b r' o (hcl _ _ _ c) (hlv r' o e hl) hl⟩,
  hR.sz, hR.tm, hR.exT, fun i b r j c d => hR.exTH i b r j c (hcl _ _ _ d), fun i b r o c e hl => hR.clT i b r o c (hlv r o e hl) hl⟩, .refl _ w, fun b _ hp => ?_, fun _ _ _ h => .inl h, fun _ _ h => .inl h⟩
 ·rcases b4U e with h | rfl
  ·exact hR.hp.ob r o h
  ·trivial
 ·obtain ⟨o, ho, hf⟩ := hR.hp.as r hA
  exact ⟨o, by rw [List.getElem?_append_left (List.getElem?_eq_some_iff.1 ho).1]; exact ho, hf⟩
 ·rcases hp with (⟨r, o, h1, h2, h3⟩ | ⟨r, j, hc⟩) | hc
  ·exact .inl (.inl ⟨r, o, hlv r o h1 h2, h2, h3⟩)
  ·exact .inl (.inr ⟨r, j, hcl _ _ _ hc⟩)
  ·exact .inr hc
end
end Go.Pm
namespace Go.Pm
section
variable {S : Seat} {G : List Nat} {g g' g'' g1 : Gh} {nt : Nat} {s s' s'' s1 : St} {a a' a'' a1 : Act} {w w' w'' w1 : World} {h h' : List Obj} {base : Nat} {v : V} {ws : List (Nat × Obj)}
theorem b0N {D A : Nat -> Prop} (hd : Dies h h' D A g) {r j b : Nat} (hc : a1e (g.kill h w D A) h' w r j b) : a1e g h w r j b := by
 obtain ⟨cs, es, l, vals, elem, fr, ad, n, cap, h1, h2, h3, h4, h5⟩ := hc
 exact ⟨cs, es, l, vals, elem, fr, ad, n, cap, (hd.left r _ h1 rfl).1, h2, h3, h4, h5⟩
theorem Goes.kills (hG : Goes S G nt g g1 s s1 a a1 w w1) {D A : Nat -> Prop} (hd : Dies s1.h h' D A g1) (hA : ∀ r, g.A r -> A r) {t' : List (Nat × V)} (ht : ∀ i, RT S (g1.kill s1.h w1 D A) w1 (get t' i) (a1.tmps.getD i undef))
 (hct : ∀ i b, a0S t' a1.tmps i b -> a0S s1.t a1.tmps i b) : Goes S G nt g (g1.kill s1.h w1 D A) s ⟨t', h'⟩ a a1 w w1 := by
 have hR := hG.rel
 refine ⟨⟨hA, fun r h => hG.le.eq r h, fun b o v e => a3O hR.hp (hG.le.im b o v e), fun b es e => a3A hR.hp (hG.le.mm b es e)⟩,
  ⟨hR.hp.kill hd, hR.sz, ht, fun i i' b c c' => hR.exT i i' b (hct i b c) (hct i' b c'), fun i b r j c d => hR.exTH i b r j (hct i b c) (b0N hd d), fun i b r o c e hl => hR.clT i b r o (hct i b c) (hd.left r o e hl).1 hl⟩,
  hG.keeps, fun b hb hp => hG.back b hb ?_, fun b o v e => ?_, fun b es e => ?_⟩
 ·rcases hp with (⟨r, o, h1, h2, h3⟩ | ⟨r, j, hc⟩) | ⟨i, hc⟩
  ·exact .inl (.inl ⟨r, o, (hd.left r o h1 h2).1, h2, h3⟩)
  ·exact .inl (.inr ⟨r, j, b0N hd hc⟩)
  ·exact .inr ⟨i, hct i b hc⟩
 ·simp only [Gh.kill] at e
  split at e
  ·rename_i hx
   obtain ⟨r, cs, h1, h2, h3⟩ := hx
   by_cases hb : b < w.heap.size
   ·exact .inr (.inr (hG.back b hb (.inl (.inl ⟨r, _, h2, rfl, h3⟩))))
   ·exact .inr (.inl (by omega))
  ·exact hG.im b o v e
 ·simp only [Gh.kill] at e
  split at e
  ·rename_i hx
   obtain ⟨r, o, h1, h2, hm, h3⟩ := hx
   by_cases hb : b < w.heap.size
   ·exact .inr (.inr (hG.back b hb (.inl (.inl ⟨r, _, h2, b0M hm, h3⟩))))
   ·exact .inr (.inl (by omega))
  ·exact hG.mm b es e
theorem RelH.und (hR : RelH S G g h w) {r : Nat} {o : Obj} (e : h[r]? = some o) : Obj.und h.length o := by
 have ho := hR.ob r o e
 cases o with
 | dead => trivial
 | free => trivial
 | map ka va l ph => trivial
 | set n f => trivial
 | iter n f => trivial
 | var cs =>
  obtain ⟨vals, elem, hb, hs, hro⟩ := ho
  refine a8v fun j c hj => ?_
  have hlt : j < vals.size := by have := (List.getElem?_eq_some_iff.1 hj).1; omega
  have := hro j c _ hj (Array.getElem?_eq_getElem hlt)
  generalize vals[j] = v at this
  cases this with
  | rc _ _ h => exact h.under fun r hA => A_lt hR hA
  | own => rfl
 | loop st pend t ps a b =>
  obtain ⟨L, n, hb, h1, h2, h3, h4, h5, h6, h7, h8⟩ := ho
  exact fun i => (h7 i).under fun r hA => A_lt hR hA
theorem b0Z (hR : RelH S G g h w) {p : Nat} {o : Obj} (hp : h[p]? = some o) : Dies h (h.set p .dead) (fun r => r = p) g.A g := by
 refine ⟨fun r o1 e hl => ?_, fun r hA => ?_, fun r o1 e hl => ?_, fun r h => h, fun r o1 e hl => ?_⟩
 ·rcases a3H e with ⟨rfl, rfl, _⟩ | ⟨hr, e⟩
  ·simp [live] at hl
  ·exact ⟨e, hr⟩
 ·by_cases hr : r = p
  ·subst hr
   have := (List.getElem?_eq_some_iff.1 hp).1
   exact ⟨.dead, by simp [this], rfl⟩
  ·rw [a5p hr]; exact hR.as r hA
 ·rcases a3H e with ⟨rfl, rfl, _⟩ | ⟨hr, e⟩
  ·simp [live] at hl
  ·exact hR.lv r o1 e hl
 ·rcases a3H e with ⟨rfl, rfl, _⟩ | ⟨hr, e⟩
  ·simp [live] at hl
  ·exact ⟨_, hR.und e, fun _ _ h => h⟩
theorem a8A (hR : Rel S G g nt s a w) {D : Nat -> Prop} (i : Nat) : RT S (g.kill s.h w D g.A) w (get s.t i) (a.tmps.getD i undef) := by
 have ht := hR.tm i
 generalize hv : get s.t i = v at ht
 generalize hx : a.tmps.getD i undef = x at ht
 have hle : g.Le (g.kill s.h w D g.A) := b2Q hR.hp (fun _ h => h)
 cases ht with
 | rv _ _ h => exact .rv _ _ (h.mono hle)
 | own es l b off cap ho =>
  have hc : a0S s.t a.tmps i b := ⟨es, l, _, _, _, hv, hx, rfl⟩
  exact .own _ _ _ _ _ ⟨ho.rel.mono hle, ho.blk, fun o hoo => by
   rw [a6p (fun r o e hl => hR.clT i b r o hc e hl)]; exact ho.spare o hoo⟩
theorem b0Y (hR : RelH S G g h w) {D A : Nat -> Prop} {p n : Nat} {f : List Int -> Bool} (hp : h[p]? = some (.set n f)) (hD : D p) :
 RC S (g.kill h w D A) (.iset n f) (.map (some (g.σ p))) := by
 obtain ⟨es, hb, h1, h2⟩ := hR.ob p _ hp
 have hN : (g.kill h w D A).N (g.σ p) = some es := by
  simp only [Gh.kill]
  rw [if_pos ⟨p, _, hD, hp, rfl, rfl⟩, hb]
 exact .iset n f _ es hN h1 h2
theorem b7G (hR : Rel S G g nt s a w) {p n : Nat} {t : TypeId} (e : eff base s.h (rd S.Γ s.t) (.kset p n) = some (v, ws)) : Does S G nt g s a w (.makeMap t none) [] v (a0I s.h ws) := by
 simp only [eff] at e
 split at e
 ·rename_i hc
  simp only [Option.some.injEq, Prod.mk.injEq] at e
  obtain ⟨rfl, rfl⟩ := e
  have hp := a3v hc
  have hplt : base + p < s.h.length := (List.getElem?_eq_some_iff.1 hp).1
  have hσ : (g.with (base + p) w.heap.size).σ (base + p) = w.heap.size := by simp [Gh.with]
  have hb : Goes S G nt g (g.with (base + p) w.heap.size) s { t := Pm.drop [] s.t, h := s.h.set (base + p) (.set n fun _ => false) } a a w (w.alloc (.map #[] 0)) := by
   refine Goes.born (takes := []) (off0 := 0) hR hp rfl ⟨#[], heap_alloc_new _ _, fun i m h => by simp at h, ⟨fun m h => by simp at h, fun ks => by simp⟩⟩ ?_
   rintro j b ⟨cs, es, l, vals, elem, fr, ad, m, cap, e1, _⟩
   simp [hplt] at e1
  have hget : (s.h.set (base + p) (.set n fun _ => false))[base + p]? = some (.set n fun _ => false) := by simp [hplt]
  have hk := hb.kills (b0Z hb.rel.hp hget) hb.le.as (a8A hb.rel) (fun _ _ h => h)
  have hv := b0Y (D := fun r => r = base + p) (A := (g.with (base + p) w.heap.size).A) hb.rel.hp hget rfl
  rw [hσ] at hv
  rw [List.set_set] at hk
  exact fun o' ho' => ⟨.map (some w.heap.size), _, w.alloc (.map #[] 0), _, by simp [execOp, ho', Instr.makeMap, newObj, Sem.run, World.alloc_eq], .inl rfl, hk, .rv _ _ (.sc _ _ hv)⟩
 ·cases e
end
end Go.Pm
namespace Go.Pm
def RVs (S : Seat) (g : Gh) (vs : List V) (xs : List Value) : Prop := vs.length = xs.length /\ ∀ (j : Nat) v x, vs[j]? = some v -> xs[j]? = some x -> RV S g v x
def a3j (S : Seat) (G : List Nat) (g : Gh) (h h' : List Obj) (w : World) (v : V) (e : Ending) (w' : World) : Prop :=
 ∃ x g', e = .returned x /\ a6h S G g g' h h' w w' /\ RV S g' v x
def SimK (S : Seat) (G : List Nat) (K : a1n) : Prop :=
 ∀ fk vs h v h', K fk vs h = some (v, h') -> ∀ g w xs, RelH S G g h w -> RVs S g vs xs →
  match fk with
  | .fn id => (∃ fn, S.P.funcs[S.fm id]? = some fn /\ fn.name ≠ "runtime.NumGoroutine" /\ fn.body ≠ none) /\ CallsIn Fence.wide 0 S.P (S.fm id) xs.toArray w (a3j S G g h h' w v)
  | .yield l => ∃ f tmps a b, (Instr.yield (g.σ l) xs.toArray).run S.P w = .ok (.round (g.σ l) f tmps a b) w /\ RoundIn Fence.wide 0 S.P (g.σ l) f tmps a b w (a3j S G g h h' w v)
section
variable {S : Seat} {G : List Nat} {g g' g'' : Gh} {nt : Nat} {s s' s'' : St} {a a' a'' : Act} {w w' w'' : World} {h h' : List Obj} {base : Nat} {v : V} {ws : List (Nat × Obj)}
theorem a0W (hR : Rel S G g nt s a w) {o : Go.Op} (hl : ws = [] /\ Looks S g a w o v) : Does S G nt g s a w o [] v (a0I s.h ws) := by
 obtain ⟨rfl, hl⟩ := hl
 exact hl.does hR
theorem b6f (hR : Rel S G g nt s a w) {o : Op} {o' : Go.Op} (hm : MOp S G o o') (hc : o.plain = true) (e : eff base s.h (rd S.Γ s.t) o = some (v, ws)) :
 Does S G nt g s a w o' o.takes v (a0I s.h ws) := by
 cases hm with
 | mv x x' h => obtain ⟨rfl, hd⟩ := b6e hR h (.inl rfl) e; exact hd
 | asg x x' h => obtain ⟨rfl, hd⟩ := b6e hR h (.inr rfl) e; exact hd
 | pick c a b c' a' b' h1 h2 h3 => exact a0W hR (c1i hR h1 h2 h3 e)
 | alloc n z t hz => exact b6p hR hz e
 | box n x t x' h => exact b8A hR h e
 | build z ps t ps' hz hp hr => exact a0W hR (b8B hR hz hp hr e)
 | bslice es n z ps t ps' el hu hs hz hn he hi hr => exact b5j hR hu hs hz hn he hi hr e
 | mkslice es n z t el i hu hi hs hz hn he hb => exact b4G hR hu hi hs hz hn he hb e
 | load n x t x' h hs => exact a0W hR (c0Y hR h hs e)
 | loadT x t x' h hs => exact b6B hR h hs e
 | store n x v t x' v' h h2 hs =>
  have hx : x.takes = [] := by cases h <;> rfl
  have := b6Y hR h h2 hs e
  simp only [Op.takes, hx, List.nil_append]
  exact this
 | bin op x y t x' y' t2 h h2 => exact a0W hR (c1S hR h h2 e)
 | eqf neg ty x y t x' y' t2 d h h2 hf hd hty hg => exact a0W hR (c1Y hR h h2 hf hd hty hg e)
 | isnil kd neg x t x' y t2 d h hu hy => exact a0W hR (b9d hR h hu hy e)
 | un op x t x' h => exact a0W hR (c5G hR h e)
 | conv k x s d x' ee h hd hs ht => exact a0W hR (c0K hR h hd hs e)
 | mkf id sh first cap first' cap' h1 h2 => exact a0W hR (c2k hR h1 h2 e)
 | mkset p n t => exact b6F hR e
 | kset p n t => exact b7G hR e
 | slook n m key t m' key' kt et d h h2 hu hz hk hd => exact a0W hR (b9G hR h h2 hu hz hk hd e)
 | sadd n m key t m' key' kt et d h h2 hu hk hd => exact b3w hR (.inl rfl) h h2 hu hk hd e
 | sins n m key t m' key' kt et d h h2 hu hk hd => exact b3w hR (.inr rfl) h h2 hu hk hd e
 | rng p x t x' kt et h hu => exact b9w hR h hu e
 | slice es x lo hi mx t x' lo' hi' mx' el h h1 h2 h3 hu hs => exact a0W hR (b9F hR h h1 h2 h3 hu hs e)
 | faddr off x t x' i fs f h hu hf ho hs => exact a0W hR (b8P hR h hu hf ho hs e)
 | field off n x t x' i fs f h hu hf ho hs => exact a0W hR (b8Q hR h hu hf ho hs e)
 | iaddr es x i t x' i' el h h2 hu hs => exact a0W hR (b8Y hR h h2 hu hs e)
 | iarr len es x i t x' i' el h h2 hu hs => exact a0W hR (c0V hR h h2 hu hs e)
 | index len es n x i t x' i' el h h2 hu hs hn => exact a0W hR (b9b hR h h2 hu hs hn e)
 | istr x i t x' i' h h2 hu => exact a0W hR (c0W hR h h2 hu e)
 | ext x i x' h => exact a0W hR (c2a hR h e)
 | len k x x' t h hu => exact a0W hR (c2g hR h hu e)
 | lenArr n x' t hu => exact a0W hR (b7K hu e)
 | min x xs x' xs' ts h h2 => exact a0W hR (c2j hR h h2 e)
 | max x xs x' xs' ts h h2 => exact a0W hR (c2i hR h h2 e)
 | append es x y x' y' t t2 h h2 T =>
  have hy : y.takes = [] := by cases h2 <;> rfl
  obtain ⟨rfl, hd⟩ := b5h hR T h h2 e
  simp only [Op.takes, hy, List.append_nil]
  exact hd
 | appendM a0 es x y x' y' t t2 h h2 T => exact b3Y hR T h h2 e
 | late o o' hp h => simp [Op.plain] at hc
 | nilchk x x' h => exact a0W hR (b7W hR h e)
 | call p f args f' args' ts h h2 => simp [Op.plain] at hc
def a1W : Option Nat -> Fence
 | none => Fence.wide
 | some l => Fence.wide.inRound l
theorem a9w (ro : Option Nat) : (a1W ro).round = ro := by cases ro <;> rfl
theorem b1H (ro : Option Nat) (f : FuncId) : (a1W ro).fn f := by cases ro <;> trivial
theorem a9v (ro : Option Nat) : (a1W ro).depth = none := by cases ro <;> rfl
theorem b3D {ro : Option Nat} {f : FuncId} {args : Array Value} {R : Ending -> World -> Prop} (h : CallsIn Fence.wide 0 S.P f args w R) : CallsIn (a1W ro) 0 S.P f args w R := by
 cases ro with
 | none => exact h
 | some l => exact h
theorem b2D {ro : Option Nat} {l : Nat} {f : FuncId} {tmps : Array Value} {x y : Code} {R : Ending -> World -> Prop} (h : RoundIn Fence.wide 0 S.P l f tmps x y w R) : RoundIn (a1W ro) 0 S.P l f tmps x y w R := by
 cases ro with
 | none => exact h
 | some l => exact h
theorem b7X {o : Op} {o' : Go.Op} (hm : MOp S G o o') : ∀ c, o' ≠ .defer c := by
 induction hm with
 | late o o' hp h ih => exact ih
 | _ => intro c hc; cases hc
theorem b2y (hR : Rel S G g nt s a w) {ops : Array Go.Oper} {o : Oper} {o' : Go.Oper} (hm : MOper S G nt ops o o') {b : Bool} (e : wanted o s.t = some b) : Region.wanted o' (yielded ops a.tmps) = b := by
 have hg := hm.guard
 unfold wanted at e
 unfold Region.wanted
 cases h1 : o.guard with
 | none =>
  cases h2 : o'.guard with
  | none =>
   rw [h1] at e
   simpa using e
  | some q => rw [h1, h2] at hg; exact hg.elim
 | some p =>
  obtain ⟨sl, wnt⟩ := p
  cases h2 : o'.guard with
  | none => rw [h1, h2] at hg; exact hg.elim
  | some q =>
   obtain ⟨j, b'⟩ := q
   rw [h1, h2] at hg
   rw [h1] at e
   obtain ⟨rfl, hj⟩ := hg
   dsimp only at e ⊢
   simp only [yielded, hj]
   have ht := hR.tm sl
   have hgd : a.tmps.getD sl undef = (a.tmps[sl]?).getD undef := by simp [Array.getD_eq_getD_getElem?]
   rw [hgd] at ht
   split at e
   ·rename_i b0 hb
    rw [hb] at ht
    simp only [Option.some.injEq] at e
    subst e
    cases hx : a.tmps[sl]? with
    | none =>
     rw [hx] at ht
     exfalso
     cases ht with
     | rv _ _ h => have := h.a5S; simp [undef] at this
    | some x =>
     rw [hx] at ht
     cases ht with
     | rv _ _ h =>
      have := h.a5S
      simp only [Option.getD_some] at this
      subst this
      simp only [Option.bind_some, hx]
      cases b0 <;> cases wnt <;> rfl
   ·rename_i hb
    rw [hb] at ht
    simp only [Option.some.injEq] at e
    subst e
    cases hx : a.tmps[sl]? with
    | none => simp [hx]
    | some x =>
     rw [hx] at ht
     cases ht with
     | rv _ _ h =>
      cases h with
      | tup _ ws hs _ => simp [hx]
   ·cases e
theorem b0s : ∀ {sh : List (Option Nat)} {cs : List C} {fs : List Value} {us : List V} {ys : List Value}, a2F sh cs = some us -> a2J sh fs = some ys -> fs.length = cs.length →
 (∀ (j : Nat) c x, cs[j]? = some c -> fs[j]? = some x -> RC S g c x) -> RVs S g us ys
 | [], [], [], us, ys, h1, h2, _, _ => by
  simp only [a2F, a2J, Option.some.injEq] at h1 h2
  subst h1; subst h2
  exact ⟨rfl, fun j v x h => by simp at h⟩
 | [], [], _ :: _, _, _, _, h2, _, _ => by simp [a2J] at h2
 | [], _ :: _, _, _, _, h1, _, _, _ => by simp [a2F] at h1
 | none :: sh, [], _, _, _, h1, _, _, _ => by simp [a2F] at h1
 | none :: sh, c :: cs, [], _, _, _, h2, _, _ => by simp [a2J] at h2
 | none :: sh, c :: cs, f :: fs, us, ys, h1, h2, hl, hr => by
  simp only [a2F, a2J, Option.map_eq_some_iff] at h1 h2
  obtain ⟨us', h1, rfl⟩ := h1
  obtain ⟨ys', h2, rfl⟩ := h2
  have ih := b0s h1 h2 (by simpa using hl) (fun j c x a b => hr (j + 1) c x (by simpa using a) (by simpa using b))
  refine ⟨by simp [ih.1], fun j v x a b => ?_⟩
  rcases j with _ | j
  ·simp at a b; subst a; subst b; exact .sc _ _ (hr 0 _ _ rfl rfl)
  ·exact ih.2 j v x (by simpa using a) (by simpa using b)
 | some n :: sh, cs, fs, us, ys, h1, h2, hl, hr => by
  have h1' : (if n <= cs.length then (a2F sh (cs.drop n)).map (V.agg (cs.take n) :: ·) else none) = some us := by
   rw [← h1]; cases cs <;> rfl
  have h2' : (if n <= fs.length then (a2J sh (fs.drop n)).map (Value.agg (fs.take n).toArray :: ·) else none) = some ys := by
   rw [← h2]; cases fs <;> rfl
  split at h1'
  ·rename_i hn
   rw [if_pos (by omega)] at h2'
   simp only [Option.map_eq_some_iff] at h1' h2'
   obtain ⟨us', h1', rfl⟩ := h1'
   obtain ⟨ys', h2', rfl⟩ := h2'
   have ih := b0s h1' h2' (by simp [hl]) (fun j c x a b => hr (n + j) c x (by simpa using a) (by simpa using b))
   refine ⟨by simp [ih.1], fun j v x a b => ?_⟩
   rcases j with _ | j
   ·simp at a b
    subst a; subst b
    refine .agg _ _ (by simp [hl]) fun j c x a b => ?_
    rw [List.getElem?_take] at a
    split at a
    ·rename_i hj
     simp only [List.getElem?_toArray, List.getElem?_take, if_pos hj] at b
     exact hr j c x a b
    ·cases a
   ·exact ih.2 j v x (by simpa using a) (by simpa using b)
  ·cases h1'
theorem RVs.append {vs ws : List V} {xs ys : List Value} (h : RVs S g vs xs) (k : RVs S g ws ys) : RVs S g (vs ++ ws) (xs ++ ys) := by
 refine ⟨by simp [h.1, k.1], fun j v x a b => ?_⟩
 by_cases hj : j < vs.length
 ·rw [List.getElem?_append_left hj] at a
  rw [List.getElem?_append_left (by rw [← h.1]; exact hj)] at b
  exact h.2 j v x a b
 ·rw [List.getElem?_append_right (by omega)] at a
  rw [List.getElem?_append_right (by rw [← h.1]; omega)] at b
  rw [← h.1] at b
  exact k.2 _ v x a b
theorem RVs.args (hR : Rel S G g nt s a w) {xs : List Rand} {ys : List Operand} (h : MRs S G xs ys) : RVs S g (xs.map (rd S.Γ s.t)) (ys.map a.eval) :=
 ⟨by simp [b0u h], fun j v x h1 h2 => by
  simp only [List.getElem?_map, Option.map_eq_some_iff] at h1 h2
  obtain ⟨r, hr, rfl⟩ := h1
  obtain ⟨o, ho, rfl⟩ := h2
  exact b1r hR h j r o hr ho⟩
def b3I (S : Seat) (g : Gh) (fk : Fk) (xs : List Value) (d : Deferred) : Prop :=
 match fk with
 | .fn id => ∃ cap, d.target = .fn (.func (S.fm id)) cap /\ d.args ++ cap = xs.toArray
 | .yield l => ∃ cap, d.target = .fn (.yield (g.σ l)) cap /\ d.args = xs.toArray
theorem b0n {f : V} {fv : Value} {args : List V} {xs : List Value} {fk : Fk} {vs : List V} (hf : RV S g f fv) (ha : RVs S g args xs) (e : target f args = some (fk, vs)) :
 ∃ d ys, (Deferred.ofValue fv xs.toArray) = pure d /\ b3I S g fk ys d /\ RVs S g vs ys := by
 unfold target at e
 split at e
 ·rename_i id sh first cap
  simp only [Option.map_eq_some_iff, Prod.mk.injEq] at e
  obtain ⟨fs, hfs, rfl, rfl⟩ := e
  cases hf with
  | sc _ _ h =>
   cases h with
   | fn _ _ _ _ fs' fvs cvs hlen hu hr hcl hc =>
    have h1 := b0s hfs hu hlen hr
    have h3 : RVs S g (cap.map V.sc) cvs := ⟨by simp [hcl], fun j v x a b => by
     simp only [List.getElem?_map, Option.map_eq_some_iff] at a
     obtain ⟨c, hc', rfl⟩ := a
     exact .sc _ _ (hc j c x hc' b)⟩
    exact ⟨⟨.fn (.func (S.fm id)) cvs.toArray, fvs.toArray ++ xs.toArray⟩, fvs ++ xs ++ cvs, rfl, ⟨cvs.toArray, rfl, by simp⟩, (h1.append ha).append h3⟩
 ·rename_i l _ _ _
  simp only [Option.some.injEq, Prod.mk.injEq] at e
  obtain ⟨rfl, rfl⟩ := e
  cases hf with
  | sc _ _ h =>
   cases h with
   | yield l hA => exact ⟨⟨.fn (.yield (g.σ l)) #[], #[] ++ xs.toArray⟩, xs, rfl, ⟨#[], rfl, by simp⟩, ha⟩
 ·cases e
theorem beside (hR : Rel S G g nt s a w) {v : V} {x : Value} (hg : a6h S G (g.cut 0) g' [] [] w w') (hv : RV S g' v x) :
 ∃ g'', Goes S G nt g g'' s s a a w w' /\ RV S g'' v x := by
 have noPerm : ∀ b, ¬ Perm (g.cut 0) ⟨[], []⟩ b0A w b := by
  rintro b hp
  rcases a4p hp with ⟨r, o, h, _⟩ | ⟨r, j, cs, es, l, vals, elem, fr, ad, n, cap, h, _⟩
  ·simp at h
  ·simp at h
 have noA : ∀ r, ¬ g'.A r := fun r hA => by
  obtain ⟨o, ho, _⟩ := hg.rel.hp.as r hA
  simp at ho
 let g2 : Gh := { g with M := g'.M, N := g'.N }
 have hgr : Grows g g2 w w' := by
  refine ⟨⟨fun _ h => h, fun _ _ => rfl, fun b o v e => hg.le.im b o v e, fun b es e => hg.le.mm b es e⟩, fun _ h => h, hg.keeps.mono (fun b _ hp => noPerm b hp), fun b o v e => ?_, fun b es e => ?_⟩
  ·rcases hg.im b o v e with h | h | h
   ·exact .inl h
   ·exact .inr ⟨h, hg.rel.hp.im b o v e⟩
   ·exact absurd h (noPerm b)
  ·rcases hg.mm b es e with h | h | h
   ·exact .inl h
   ·exact .inr ⟨h, hg.rel.hp.mm b es e⟩
   ·exact absurd h (noPerm b)
 exact ⟨g2, .grow hR hgr, hv.mono ⟨fun r h => absurd h (noA r), fun r h => absurd h (noA r), fun _ _ _ h => h, fun _ _ h => h⟩⟩
theorem RelH.cut0 (hR : RelH S G g h w) : RelH S G (g.cut 0) [] w :=
 ⟨fun r o e => by simp at e, fun r hA => absurd hA.2 (by omega), fun r o e => by simp at e, fun r r' o o' e => by simp at e, hR.im, hR.mm, fun r o e => by simp at e, fun r o e => by simp at e,
  fun id hid => (hR.gl id hid).cut rfl, fun r j r' j' b ⟨cs, es, l, vals, elem, fr, ad, n, cap, h, _⟩ => by simp at h, fun r j b r' o ⟨cs, es, l, vals, elem, fr, ad, n, cap, h, _⟩ => by simp at h⟩
theorem RVs.cut0 {vs : List V} {xs : List Value} (h : RVs S g vs xs) (hp : vs.all V.pure = true) : RVs S (g.cut 0) vs xs :=
 ⟨h.1, fun j v x a b => (h.2 j v x a b).a3I (List.all_eq_true.1 hp v (List.mem_of_getElem? a)) (fun _ _ _ h => h) (fun _ _ h => h)⟩
theorem c0I {K : a1n} (hK : SimK S G K) (hR : Rel S G g nt s a w) {fk : Fk} {vs : List V} {xs : List Value} {d : Deferred} (hl : b3I S g fk xs d) (hx : RVs S g vs xs) {pure : Bool}
    (e : (if pure then (if vs.all V.pure then (K fk vs []).bind (alone s.h) else none) else K fk vs s.h) = some (v, h')) :
    ∃ R : Ending -> World -> Prop, (∀ e w', R e w' -> ∃ x g', e = .returned x /\ Goes S G nt g g' s ⟨s.t, h'⟩ a a w w' /\ RV S g' v x) ∧
      ((∃ f args, (invoke d.target d.args).run S.P w = .ok (.enter f args) w /\ CallsIn Fence.wide 0 S.P f args w R) ∨
       (∃ l f tmps x y, (invoke d.target d.args).run S.P w = .ok (.round l f tmps x y) w /\ RoundIn Fence.wide 0 S.P l f tmps x y w R)) := by
  have core : ∀ {g0 : Gh} {h0 h1 : List Obj} {v1 : V}, RelH S G g0 h0 w -> RVs S g0 vs xs -> b3I S g0 fk xs d -> K fk vs h0 = some (v1, h1) →
      ((∃ f args, (invoke d.target d.args).run S.P w = .ok (.enter f args) w /\ CallsIn Fence.wide 0 S.P f args w (a3j S G g0 h0 h1 w v1)) ∨
       (∃ l f tmps x y, (invoke d.target d.args).run S.P w = .ok (.round l f tmps x y) w /\ RoundIn Fence.wide 0 S.P l f tmps x y w (a3j S G g0 h0 h1 w v1))) := by
    intro g0 h0 h1 v1 hH hxs hld hk
    have := hK fk vs h0 v1 h1 hk g0 w xs hH hxs
    cases fk with
    | fn id =>
      obtain ⟨⟨fn, hfn, hname, hbody⟩, hc⟩ := this
      obtain ⟨cap, ht, hargs⟩ := hld
      refine .inl ⟨S.fm id, xs.toArray, ?_, hc⟩
      simp [invoke, ht, hargs, callFunc, hfn, hname, hbody]
    | yield l =>
      obtain ⟨f, tmps, x, y, hy, hc⟩ := this
      obtain ⟨cap, ht, hargs⟩ := hld
      refine .inr ⟨_, f, tmps, x, y, ?_, hc⟩
      simp only [invoke, ht, hargs]
      exact hy
  cases pure with
  | false =>
    simp only [Bool.false_eq_true, if_false] at e
    refine ⟨a3j S G g s.h h' w v, fun e w' ⟨x, g', h1, h2, h3⟩ => ⟨x, g', h1, Goes.frame hR h2, h3⟩, core hR.hp hx hl e⟩
  | true =>
    simp only [if_true] at e
    split at e
    · rename_i hp
      simp only [Option.bind_eq_some_iff] at e
      obtain ⟨⟨v1, h1⟩, hk, e⟩ := e
      unfold alone at e
      split at e
      · rename_i hh
        simp only at hh
        subst hh
        simp only [Option.some.injEq, Prod.mk.injEq] at e
        obtain ⟨rfl, rfl⟩ := e
        have hld : b3I S (g.cut 0) fk xs d := hl
        refine ⟨a3j S G (g.cut 0) [] [] w v1, fun e w' ⟨x, g', h1, h2, h3⟩ => ?_, core hR.hp.cut0 (hx.cut0 hp) hld hk⟩
        obtain ⟨g'', k1, k2⟩ := beside hR h2 h3
        exact ⟨x, g'', h1, k1, k2⟩
      · cases e
    · cases e
theorem a3Y (a : Act) (dst : Option Tmp) (x : Value) : (a.put dst x).defers = a.defers := by cases dst <;> rfl
theorem b6n {K : a1n} (hK : SimK S G K) (hR : Rel S G g nt s a w) {ops : Array Go.Oper} {o : Oper} {o' : Go.Oper} (hm : MOper S G nt ops o o') (hs : step S.Γ K base o s = some s') (ro : Option Nat) {next : Act -> World -> Prop} {Q : Exit -> Act -> World -> Prop}
 (hn : ∀ a' w' g', Goes S G nt g g' s s' a a' w w' -> a'.defers = a.defers -> next a' w') :
 if Region.wanted o' (yielded ops a.tmps) = true then o'.wpIn (a1W ro) 0 S.P a w next Q else (∀ f, o'.about S.P w a.eval = some f -> (a1W ro).fn f) /\ next (a.put o'.dst undef) w := by
 have hdst : ∀ d, o.dst = some d -> d < nt := hm.lt
 have hab : ∀ f, o'.about S.P w a.eval = some f -> (a1W ro).fn f := fun f _ => b1H ro f
 unfold step at hs
 split at hs
 ·cases hs
 ·rename_i hw
  rw [b2y hR hm hw, if_neg (by simp)]
  simp only [Option.some.injEq] at hs
  subst hs
  refine ⟨hab, hn _ _ g ?_ (a3Y _ _ _)⟩
  rw [hm.dst]
  exact Goes.put hR (.tup [] #[] rfl fun j v w a b => by simp at a) hdst
 ·rename_i hw
  rw [b2y hR hm hw, if_pos rfl]
  split at hs
  ·cases hs
  ·rename_i v h' hp
   simp only [Option.some.injEq] at hs
   subst hs
   refine ⟨hab, ?_⟩
   rw [a9w, Oper.semAt_eq ro a.eval o' (b7X hm.op)]
   by_cases hc : ∃ p f as, o.op = .call p f as
   ·obtain ⟨pu, f, as, ho⟩ := hc
    have hop := hm.op
    rw [ho] at hop hp
    generalize ho' : o'.op = oo at hop
    cases hop with
    | call _ _ _ f' args' ts hf ha =>
     have htk : o.op.takes = [] := by rw [ho]; rfl
     simp only [perform, calls] at hp
     split at hp
     ·cases hp
     ·rename_i fk vs ht
      obtain ⟨d, ys, hd, hl, hx⟩ := b0n (a0M hR hf) (RVs.args hR ha) ht
      obtain ⟨R, hpost, hcase⟩ := c0I hK hR hl hx (pure := pu) (by cases pu <;> exact hp)
      have hres : (resolve a.eval { callee := .value f', args := args'.toArray, argTypes := ts } o'.type) = pure d := by
       simp only [resolve]
       rw [← hd]
       congr 1
       simp
      have hrun : (execOp a.eval o').run S.P w = (invoke d.target d.args).run S.P w := by
       simp only [execOp, ho', hres, Sem.run_bind, Sem.run_pure, Result.andThen_ok]
      have fin : ∀ e w', R e w' -> (match e, w' with | .returned v, w'' => next (a.put o'.dst v) w'' | .panicked chain, w'' => Q (.panic chain) a w'' | .outgrown, _ => LetsOut Q) := fun e w' hr => by
       obtain ⟨x, g', rfl, h2, h3⟩ := hpost e w' hr
       refine hn _ _ g' ?_ (a3Y _ _ _)
       rw [hm.dst, htk]
       exact h2.trans (Goes.put h2.rel h3 hdst)
      rw [hrun]
      rcases hcase with ⟨f, args, h1, h2⟩ | ⟨l, f, tmps, x, y, h1, h2⟩
      ·rw [h1, Oper.uponIn_enter]
       exact ⟨fun h => (by rw [a9v] at h; cases h), b3D (h2.mono fin)⟩
      ·rw [h1, Oper.uponIn_round]
       exact ⟨fun h => (by rw [a9v] at h; cases h), b2D (h2.mono fin)⟩
   ·have key : ∃ x n w' g', (execOp a.eval o').run S.P w = .ok n w' /\ (n = .value x \/ (n = .skip /\ x = undef)) /\ Goes S G nt g g' s { t := put1 o.dst v (drop o.op.takes s.t), h := h' } a (a.put o.dst x) w w' := by
     by_cases hpl : o.op.plain = true
     ·rw [a1y hpl, Option.map_eq_some_iff] at hp
      obtain ⟨⟨v', ws⟩, he, e2⟩ := hp
      simp only [Prod.mk.injEq] at e2
      obtain ⟨rfl, rfl⟩ := e2
      exact (b6f hR hm.op hpl he).step rfl hdst
     ·have hop := hm.op
      cases ho : o.op with
      | call p f as => exact absurd ⟨p, f, as, ho⟩ hc
      | late o1 =>
       rw [ho] at hop hp
       generalize ho' : o'.op = oo at hop
       cases hop with
       | late _ _ hp1 hm1 =>
        simp only [perform] at hp
        split at hp
        ·rename_i htk
         simp only [Option.map_eq_some_iff] at hp
         obtain ⟨⟨v', ws⟩, he, e2⟩ := hp
         simp only [Prod.mk.injEq] at e2
         obtain ⟨rfl, rfl⟩ := e2
         have hroom := Goes.room hR 1
         obtain ⟨x, n, w', g', h1, h2, h3⟩ := (b6f (base := s.h.length) (s := ⟨s.t, s.h ++ [.free]⟩) hroom.rel hm1 hp1 he).step ho' hdst
         rw [htk] at h3
         exact ⟨x, n, w', g', h1, h2, hroom.trans h3⟩
        ·cases hp
      | _ => rw [ho] at hpl; exact absurd rfl hpl
    obtain ⟨x, n, w', g', h1, h2, h3⟩ := key
    rw [h1]
    rcases h2 with rfl | ⟨rfl, rfl⟩
    ·rw [Oper.uponIn_value]
     refine hn _ _ g' ?_ (a3Y _ _ _)
     rw [hm.dst]; exact h3
    ·rw [Oper.uponIn_skip]
     refine hn _ _ g' ?_ (a3Y _ _ _)
     rw [hm.dst]; exact h3
end
end Go.Pm
namespace Go.Pm
section
variable {S : Seat} {G : List Nat} {g g' g'' : Gh} {nt : Nat} {s s' s'' : St} {a a' a'' : Act} {w w' w'' : World} {h h' : List Obj} {base : Nat}
theorem a4M.get {ops : Array Go.Oper} : ∀ {os : List Oper} {os' : List Go.Oper}, a4M S G nt ops os os' -> os.length = os'.length /\ ∀ (i : Nat) o o', os[i]? = some o -> os'[i]? = some o' -> MOper S G nt ops o o'
 | [], [], _ => ⟨rfl, fun i o o' h => by simp at h⟩
 | o :: os, o' :: os', h => by
  obtain ⟨h1, h2⟩ := h
  obtain ⟨h3, h4⟩ := a4M.get h2
  refine ⟨by simp [h3], fun i p p' a b => ?_⟩
  rcases i with _ | i
  ·simp at a b; subst a; subst b; exact h1
  ·exact h4 i p p' (by simpa using a) (by simpa using b)
 | [], _ :: _, h => by cases h
 | _ :: _, [], h => by cases h
/-! ### Room for what a region allocates; slots forgotten -/
theorem Goes.restrict (hR : Rel S G g nt s a w) (keep : List Nat) : Goes S G nt g g s { t := Pm.restrict keep s.t, h := s.h } a a w w where
 le := .refl g
 rel := hR.restrict keep
 keeps := .refl _ w
 back := fun b _ hp => by
  rcases hp with h | ⟨i, es, l, ad, n, cap, h1, h2, h3⟩
  ·exact .inl h
  ·have h1' : get (Pm.restrict keep s.t) i = .sc (.own es l) := h1
   rw [a2s] at h1'
   split at h1'
   ·exact .inr ⟨i, es, l, ad, n, cap, h1', h2, h3⟩
   ·cases h1'
 im := fun _ _ _ h => .inl h
 mm := fun _ _ h => .inl h
theorem b4R {e : St} (h : Eqv s e) (keep : List Nat) : ({ t := restrict keep s.t, h := s.h } : St) = { t := restrict keep e.t, h := e.h } := by
 have : restrict keep s.t = restrict keep e.t := List.map_congr_left fun i _ => by rw [h.t i]
 rw [this, h.h]
/-! ### In their text's order -/
theorem a9q {K : a1n} (hK : SimK S G K) {ops' : Array Go.Oper} (ro : Option Nat) {Q : Exit -> Act -> World -> Prop} : ∀ (os : List Oper) (os' : List Go.Oper) (i : Nat), a4M S G nt ops' os os' -> (∀ j, os'[j]? = ops'[i + j]?) →
 ∀ (s e : St) (a : Act) (w : World) (g : Gh), steps S.Γ K base os s = some e -> Rel S G g nt s a w -> (∀ a' w' g', Goes S G nt g g' s e a a' w w' -> a'.defers = a.defers -> Q .normal a' w') →
  wpOpsIn (a1W ro) 0 S.P ops' Q (List.range' i os'.length) a w
 | [], [], i, _, _, s, e, a, w, g, hs, hR, hn => by
  simp only [steps, Option.some.injEq] at hs
  subst hs
  simp only [List.length_nil, List.range'_zero, wpOpsIn]
  exact hn a w g (.refl hR) rfl
 | o :: os, o' :: os', i, hm, hi, s, e, a, w, g, hs, hR, hn => by
  obtain ⟨h1, h2⟩ := hm
  simp only [steps] at hs
  split at hs
  ·cases hs
  ·rename_i s1 hs1
   have ho : ops'[i]? = some o' := by have := hi 0; simpa using this.symm
   rw [List.length_cons, List.range'_succ, wpOpsIn]
   simp only [ho]
   exact b6n hK hR h1 hs1 ro fun a' w' g' hg hd => a9q hK ro os os' (i + 1) h2 (fun j => by have := hi (j + 1); rw [List.getElem?_cons_succ] at this; rw [this]; congr 1; omega) s1 e a' w' g' hs hg.rel
    fun a'' w'' g'' hg' hd' => hn a'' w'' g'' (hg.trans hg') (hd'.trans hd)
 | [], _ :: _, _, h, _, _, _, _, _, _, _, _, _ => by cases h
 | _ :: _, [], _, h, _, _, _, _, _, _, _, _, _ => by cases h
/-! ### In an order that is drawn -/
theorem b1t {ops' : Array Go.Oper} {anc : Nat -> List Nat} (hlt : ∀ (i : Nat) o, ops'.toList[i]? = some o -> ∀ j ∈ binds o, j < i) (hanc : ∀ (i : Nat) o, ops'.toList[i]? = some o -> ∀ j ∈ anc i, j ∈ binds o \/ ∃ k ∈ binds o, j ∈ anc k)
 {L : Nat -> Prop} (hdown : ∀ (i : Nat) o', ops'[i]? = some o' -> L i -> ∀ j ∈ binds o', L j) : ∀ (n i : Nat) o', i < n -> ops'[i]? = some o' -> (∀ j ∈ binds o', L j) -> ∀ j ∈ anc i, L j
 | 0, i, _, hi, _, _ => by omega
 | n + 1, i, o', hi, ho, hb => by
  intro j hj
  have ho' : ops'.toList[i]? = some o' := by rw [Array.getElem?_toList]; exact ho
  rcases hanc i o' ho' j hj with h | ⟨k, hk, hjk⟩
  ·exact hb j h
  ·have hki := hlt i o' ho' k hk
   have hks : k < ops'.size := by have := (Array.getElem?_eq_some_iff.1 ho).1; omega
   exact b1t hlt hanc hdown n k ops'[k] (by omega) (Array.getElem?_eq_getElem hks) (hdown k _ (Array.getElem?_eq_getElem hks) (hb k hk)) j hjk
theorem b3l {o : Go.Oper} {e : Edge} (he : e ∈ o.after) (hb : Region.binds .any e = true) : e.on ∈ binds o := by
 unfold binds
 exact List.mem_map.2 ⟨e, List.mem_filter.2 ⟨Array.mem_toList_iff.2 he, hb⟩, rfl⟩
theorem b4H {o : Go.Oper} {j : Nat} (h : j ∈ binds o) : ∃ e ∈ o.after, Region.binds .any e = true /\ e.on = j := by
 unfold binds at h
 obtain ⟨e, he, rfl⟩ := List.mem_map.1 h
 obtain ⟨h1, h2⟩ := List.mem_filter.1 he
 exact ⟨e, Array.mem_toList_iff.1 h1, h2, rfl⟩
theorem a2M {l : Array Bool} {j : Nat} (hj : j < l.size) (d : Bool) : l.getD j d = l[j] := by simp [Array.getD, hj]
theorem b8F {K : a1n} (hK : SimK S G K) {ops' : Array Go.Oper} {ops : List Oper} (hm : a4M S G nt ops' ops ops'.toList) (hd : DrawOk ops ops'.toList) (tr : List (Nat × Acc)) (ro : Option Nat) {Q : Exit -> Act -> World -> Prop} :
 ∀ (fuel : Nat) (rem : List Oper) (listed : Array Bool) (s e : St) (a : Act) (w : World) (g : Gh), rem.length = fuel -> rem.Sublist ops -> listed.size = ops'.size -> (∀ i, i < ops'.size -> (listed.getD i true = false <-> ∃ o ∈ rem, o.ix = i)) →
  (∀ (i : Nat) o', ops'[i]? = some o' -> listed.getD i true = true -> ∀ j ∈ binds o', listed.getD j true = true) -> RunT S.Γ K base tr rem s e -> rem.Pairwise (Pairs tr) -> Rel S G g nt s a w →
  (∀ a' w' g' s', Goes S G nt g g' s s' a a' w w' -> Eqv s' e -> a'.defers = a.defers -> Q .normal a' w') -> wpAnyIn (a1W ro) 0 S.P .any ops' Q fuel listed a w := by
 obtain ⟨hlen, hget⟩ := hm.get
 have hpos : ∀ o ∈ ops, ops[o.ix]? = some o /\ o.ix < ops'.size := fun o ho => by
  obtain ⟨k, hk⟩ := List.getElem?_of_mem ho
  have := hd.ix k o hk
  subst this
  exact ⟨hk, by have := (List.getElem?_eq_some_iff.1 hk).1; rw [hlen] at this; simpa using this⟩
 have hsorted : ops.Pairwise (fun x y => x.ix < y.ix) := by
  rw [List.pairwise_iff_getElem]
  intro i j hi hj hij
  rw [hd.ix i _ (List.getElem?_eq_getElem hi), hd.ix j _ (List.getElem?_eq_getElem hj)]
  exact hij
 obtain ⟨anc, hanc, hpair⟩ := hd.apart
 intro fuel
 induction fuel with
 | zero =>
  intro rem listed s e a w g hl hsub hsz hun hdown hrun hpw hR hn
  have hnil : rem = [] := List.length_eq_zero_iff.1 hl
  subst hnil
  refine ⟨?_, hn a w g s (.refl hR) hrun rfl⟩
  apply List.eq_nil_iff_forall_not_mem.2
  intro i hi
  obtain ⟨h0, o, ho, _⟩ := mem_ready.1 hi
  have hlt : i < ops'.size := (Array.getElem?_eq_some_iff.1 ho).1
  obtain ⟨o, ho, _⟩ := (hun i hlt).1 h0
  simp at ho
 | succ fuel ih =>
  intro rem listed s e a w g hl hsub hsz hun hdown hrun hpw hR hn
  refine ⟨fun hnone => ?_, fun i hi => ?_⟩
  ·exfalso
   cases rem with
   | nil => simp at hl
   | cons o rest =>
    have hoops := hsub.subset (by simp : o ∈ o :: rest)
    obtain ⟨hpo, hlt⟩ := hpos o hoops
    have hready : o.ix ∈ Region.ready .any ops' listed := by
     refine mem_ready.2 ⟨(hun _ hlt).2 ⟨o, by simp, rfl⟩, ops'[o.ix], Array.getElem?_eq_getElem hlt, fun ed he hb => ?_⟩
     have hbl := hd.lt o.ix ops'[o.ix] (by rw [Array.getElem?_toList]; exact Array.getElem?_eq_getElem hlt) ed.on (b3l he hb)
     have hbs : ed.on < listed.size := by omega
     cases hc : listed.getD ed.on true with
     | true => rw [a2M hbs] at hc ⊢; exact hc
     | false =>
      obtain ⟨o2, ho2, hix⟩ := (hun ed.on (by omega)).1 hc
      rcases List.mem_cons.1 ho2 with rfl | ho2
      ·omega
      ·have := List.rel_of_pairwise_cons (hsorted.sublist hsub) ho2
       omega
    rw [hnone] at hready
    cases hready
  ·obtain ⟨h0, o', ho', hall⟩ := mem_ready.1 hi
   have hlt : i < ops'.size := (Array.getElem?_eq_some_iff.1 ho').1
   obtain ⟨o, ho, hix⟩ := (hun i hlt).1 h0
   subst hix
   obtain ⟨pre, post, rfl⟩ := List.append_of_mem ho
   have hoops := hsub.subset ho
   obtain ⟨hpo, _⟩ := hpos o hoops
   have hmo := hget o.ix o o' hpo (by rw [Array.getElem?_toList]; exact ho')
   have hbl : ∀ j ∈ binds o', listed.getD j true = true := fun j hj => by
    obtain ⟨ed, he, hb, rfl⟩ := b4H hj
    have := hall ed he hb
    have hlt2 := hd.lt o.ix o' (by rw [Array.getElem?_toList]; exact ho') ed.on (b3l he hb)
    have hbs : ed.on < listed.size := by omega
    rw [a2M hbs] at this ⊢; exact this
   have hancl := b1t hd.lt hanc (L := fun j => listed.getD j true = true) hdown (o.ix + 1) o.ix o' (by omega) ho' hbl
   have hs := hsorted.sublist hsub
   have hfront := hrun.front (fun oj hoj => by
    have hm1 : oj ∈ ops := hsub.subset (by simp [hoj])
    obtain ⟨hpj, hltj⟩ := hpos oj hm1
    have hlt3 : oj.ix < o.ix := (List.pairwise_append.1 hs).2.2 oj hoj o (by simp)
    refine ⟨hpair o.ix oj.ix o oj hlt3 hpo hpj fun hmem => ?_, (List.pairwise_append.1 hpw).2.2 oj hoj o (by simp)⟩
    have h1 := hancl _ hmem
    have h2 := (hun oj.ix hltj).2 ⟨oj, by simp [hoj], rfl⟩
    rw [h1] at h2
    cases h2)
   obtain ⟨s1, hs1, _, hrest⟩ := hfront
   unfold wpOpIn
   simp only [ho']
   refine b6n hK hR hmo hs1 ro fun a' w' g' hg hdf => ?_
   have hsub' : (pre ++ post).Sublist (pre ++ o :: post) := List.Sublist.append (List.Sublist.refl pre) (List.sublist_cons_self o post)
   have hnotin : ∀ o2 ∈ pre ++ post, o2.ix ≠ o.ix := fun o2 ho2 => by
    rcases List.mem_append.1 ho2 with h1 | h1
    ·have := (List.pairwise_append.1 hs).2.2 o2 h1 o (by simp); omega
    ·have := List.rel_of_pairwise_cons (List.pairwise_append.1 hs).2.1 h1; omega
   refine ih (pre ++ post) _ s1 e a' w' g' (by simp at hl ⊢; omega) (hsub'.trans hsub) (by simpa using hsz) (fun j hj => ?_) (fun j oj' hoj' hlj k hk => ?_) hrest (hpw.sublist hsub') hg.rel
    (fun a'' w'' g'' s'' hg' he hd' => hn a'' w'' g'' s'' (hg.trans hg') he (hd'.trans hdf))
   ·have hjl : j < listed.size := by omega
    have hjl' : j < (listed.setIfInBounds o.ix true).size := by simpa using hjl
    rw [a2M hjl']
    by_cases hjo : j = o.ix
    ·subst hjo
     simp only [Array.getElem_setIfInBounds_self, Bool.true_eq_false, false_iff, not_exists, not_and]
     exact hnotin
    ·rw [Array.getElem_setIfInBounds_ne hjl (fun h => hjo h.symm), ← a2M hjl true, hun j hj]
     constructor
     ·rintro ⟨o2, ho2, hx⟩
      refine ⟨o2, ?_, hx⟩
      rcases List.mem_append.1 ho2 with h1 | h1
      ·exact List.mem_append_left _ h1
      ·rcases List.mem_cons.1 h1 with rfl | h1
       ·exact absurd hx.symm hjo
       ·exact List.mem_append_right _ h1
     ·rintro ⟨o2, ho2, hx⟩
      exact ⟨o2, hsub'.subset ho2, hx⟩
   ·have hjl : j < ops'.size := (Array.getElem?_eq_some_iff.1 hoj').1
    have hk2 := hd.lt j oj' (by rw [Array.getElem?_toList]; exact hoj') k hk
    have hkl : k < listed.size := by omega
    have hkl' : k < (listed.setIfInBounds o.ix true).size := by simpa using hkl
    have hjl2 : j < listed.size := by omega
    have hjl' : j < (listed.setIfInBounds o.ix true).size := by simpa using hjl2
    rw [a2M hkl']
    by_cases hko : k = o.ix
    ·subst hko; simp
    ·rw [Array.getElem_setIfInBounds_ne hkl (fun h => hko h.symm), ← a2M hkl true]
     by_cases hjo : j = o.ix
     ·subst hjo
      rw [ho'] at hoj'
      cases hoj'
      exact hbl k hk
     ·rw [a2M hjl', Array.getElem_setIfInBounds_ne hjl2 (fun h => hjo h.symm), ← a2M hjl2 true] at hlj
      exact hdown j oj' hoj' hlj k hk
theorem b3t {K : a1n} (hK : SimK S G K) (hmix : S.P.follows .mixedOrders = true) {nal : Nat} {ops : List Oper} {draw : Bool} {keep : List Nat} {id : Nat} {ops' : Array Go.Oper} (hm : a4M S G nt ops' ops ops'.toList) (hd : draw = true -> DrawOk ops ops'.toList)
 (hR : Rel S G g nt s a w) {ex : Ex} (e : region S.Γ K nal ops draw keep s = some (ex, s')) (ro : Option Nat) {Q : Exit -> Act -> World -> Prop}
 (hn : ex = .norm -> ∀ a' w' g', Goes S G nt g g' s s' a a' w w' -> a'.defers = a.defers -> Q .normal a' w') : (Code.region id ops' draw).wpIn (a1W ro) 0 S.P Q a w := by
 have hroom := Goes.room hR nal
 cases draw with
 | false =>
  simp only [region, Option.map_eq_some_iff, Prod.mk.injEq] at e
  obtain ⟨e1, he, rfl, rfl⟩ := e
  refine wpIn_region ?_
  have hr : List.range ops'.size = List.range' 0 ops'.toList.length := by rw [List.range_eq_range']; simp
  rw [hr]
  exact a9q hK ro ops ops'.toList 0 hm (fun j => by simp) _ _ a w g he hroom.rel fun a' w' g' hg hdf => hn rfl a' w' g' ((hroom.trans hg).trans (.restrict hg.rel keep)) hdf
 | true =>
  simp only [region, Option.map_eq_some_iff, Prod.mk.injEq] at e
  obtain ⟨e1, ⟨⟨e2, tr⟩, he, rfl⟩, rfl, rfl⟩ := e
  obtain ⟨hlen, _⟩ := hm.get
  have hix : ops.map (·.ix) = List.range ops.length := by
   apply List.ext_getElem?
   intro i
   rw [List.getElem?_map]
   cases hi : ops[i]? with
   | none => simp [List.getElem?_eq_none_iff.1 hi]
   | some o =>
    have := (List.getElem?_eq_some_iff.1 hi).1
    have hox := (hd rfl).ix i o hi
    rw [Option.map_some, hox]
    simp [this]
  obtain ⟨r1, _, _, r4, _⟩ := b2u ops _ e2 [] tr he (by rw [hix]; exact List.nodup_range) (by simp)
  refine wpIn_region_any hmix ?_
  refine b8F hK hm (hd rfl) tr ro ops'.size ops _ _ e2 a _ g (by rw [hlen]; simp) (List.Sublist.refl _) (by simp) (fun i hi => ?_) (fun i o' ho' hl => ?_) r1 r4 (hroom.rel.grow (Grows.drew g w)) (fun a' w' g' s1 hg hE hdf => ?_)
  ·have h1 : (Array.replicate ops'.size false).getD i true = false := by simp [Array.getD, hi]
   rw [h1]
   simp only [true_iff]
   have : i < ops.length := by rw [hlen]; simpa using hi
   exact ⟨ops[i], List.getElem_mem this, (hd rfl).ix i _ (List.getElem?_eq_getElem this)⟩
  ·have hi : i < ops'.size := (Array.getElem?_eq_some_iff.1 ho').1
   simp [Array.getD, hi] at hl
  ·refine hn rfl a' w' g' ?_ hdf
   have h1 : Goes S G nt g g' s s1 a a' w w' := (hroom.trans (Goes.grow hroom.rel (Grows.drew g w))).trans hg
   have h2 := h1.trans (.restrict h1.rel keep)
   rw [b4R hE keep] at h2
   exact h2
end
end Go.Pm
namespace Go.Pm
section
variable {S : Seat} {G : List Nat} {g g' g'' g1 : Gh} {nt : Nat} {s s' s'' s1 : St} {a a' a'' a1 : Act} {w w' w'' w1 : World} {h h' : List Obj} {base : Nat}
theorem b5W {n : Nat} (hR : Rel S G g nt s a w) {D A : Nat -> Prop} (hA : ∀ r, r < n -> g.A r -> A r) {i : Nat} (hu : (get s.t i).under n = true) : RT S (g.kill s.h w D A) w (get s.t i) (a.tmps.getD i undef) := by
 have ht := hR.tm i
 generalize hv : get s.t i = v at ht hu
 generalize hx : a.tmps.getD i undef = x at ht
 cases ht with
 | rv _ _ h => exact .rv _ _ (h.keep hu hA rfl (fun _ _ _ e => a3O hR.hp e) (fun _ _ e => a3A hR.hp e))
 | own es l b off cap ho =>
  have hc : a0S s.t a.tmps i b := ⟨es, l, _, _, _, hv, hx, rfl⟩
  exact .own _ _ _ _ _ ⟨ho.rel.a3I rfl (fun _ _ _ e => a3O hR.hp e) (fun _ _ e => a3A hR.hp e), ho.blk, fun o hoo => by
   rw [a6p (fun r o e hl => hR.clT i b r o hc e hl)]; exact ho.spare o hoo⟩
theorem a9T (hR : RelH S G g h w) (n : Nat) (hun : (h.take n).all (Obj.under n) = true) : Dies h (h.take n) (fun r => n <= r) (fun r => g.A r /\ r < n) g := by
 have hg : ∀ (r : Nat) o, (h.take n)[r]? = some o -> h[r]? = some o /\ r < n := fun r o e => by
  rw [List.getElem?_take] at e
  split at e
  ·rename_i hlt; exact ⟨e, hlt⟩
  ·cases e
 refine ⟨fun r o e _ => ⟨(hg r o e).1, fun hx => absurd (hg r o e).2 (by show ¬ r < n; omega)⟩, fun r ⟨hA, hlt⟩ => ?_, fun r o e hl => ⟨hR.lv r o (hg r o e).1 hl, (hg r o e).2⟩, fun r h => h.1, fun r o e _ => ⟨n, c2y (List.all_eq_true.1 hun o (List.mem_of_getElem? e)), fun r' hr' hA => ⟨hA, hr'⟩⟩⟩
 obtain ⟨o, ho, hf⟩ := hR.as r hA
 exact ⟨o, by rw [List.getElem?_take, if_pos hlt]; exact ho, hf⟩
theorem Goes.trim (hR : Rel S G g nt s a w) (hG : Goes S G nt g g1 s s1 a a1 w w1) {keep : List Nat} {s2 : St} (e : trim keep s.h.length s1 = some s2) : ∃ g2, Goes S G nt g g2 s s2 a a1 w w1 := by
 simp only [Pm.trim] at e
 split at e
 ·rename_i hall
  obtain ⟨hall, hun⟩ := hall
  simp only [Option.some.injEq] at e
  subst e
  have hu : ∀ i, (get (Pm.restrict keep s1.t) i).under s.h.length = true := fun i => by
   rw [a2s]
   split
   ·rename_i hi
    have := List.all_eq_true.1 hall (i, get s1.t i) (List.mem_map.2 ⟨i, hi, rfl⟩)
    exact this
   ·rfl
  have hr := hG.trans (.restrict hG.rel keep)
  refine ⟨_, hr.kills (a9T hr.rel.hp s.h.length hun) (fun r hA => ⟨hG.le.as r hA, A_lt hR.hp hA⟩) (fun i => b5W hr.rel (fun r hlt hA => ⟨hA, hlt⟩) (hu i)) (fun _ _ h => h)⟩
 ·cases e
theorem Goes.die (hR : Rel S G g nt s a w) {p : Nat} {o : Obj} (hp : s.h[p]? = some o) : Goes S G nt g (g.kill s.h w (fun r => r = p) g.A) s ⟨s.t, s.h.set p .dead⟩ a a w w :=
 (Goes.refl hR).kills (b0Z hR.hp hp) (fun _ h => h) (a8A hR) (fun _ _ h => h)
theorem b4f (hR : RelH S G g h w) {D A : Nat -> Prop} {p : Nat} {cs : List C} (hp : h[p]? = some (.var cs)) (hD : D p) {cs' : List C} (hl : cs'.length = cs.length) (hpure : C.a0v cs' = true)
 (hr : ∀ (j : Nat) c c' v, cs[j]? = some c -> cs'[j]? = some c' -> RO S g w c v -> RC S (g.kill h w D A) c' v) (off : Nat) :
 RC S (g.kill h w D A) (.eptr cs' off) (.pointer (some ⟨g.σ p, off, none⟩)) := by
 obtain ⟨vals, elem, hb, hs, hro⟩ := hR.ob p _ hp
 have key : ∀ j, j < cs'.length -> ∃ c v, cs[j]? = some c /\ vals[j]? = some v /\ (g.kill h w D A).M (g.σ p) (0 + j) = some v := fun j hj => by
  have hj1 : j < cs.length := by omega
  have hj2 : j < vals.size := by omega
  refine ⟨cs[j], vals[j], List.getElem?_eq_getElem hj1, Array.getElem?_eq_getElem hj2, ?_⟩
  simp only [Gh.kill, Nat.zero_add]
  rw [if_pos ⟨p, cs, hD, hp, rfl⟩, cell_of_heap hb, Array.getElem?_eq_getElem hj2]
 have := RC.eptr (S := S) (g := g.kill h w D A) cs' off (g.σ p) 0 (fun j => (vals[j]?).getD undef) hpure (fun j hj => by
  obtain ⟨c, v, _, h2, h3⟩ := key j hj
  rw [h3, h2]; rfl) (fun j c' hc' => by
  obtain ⟨c, v, h1, h2, _⟩ := key j (List.getElem?_eq_some_iff.1 hc').1
  rw [h2]
  exact hr j c c' v h1 hc' (hro j c v h1 h2))
 rw [Nat.zero_add] at this
 exact this
theorem b5o (hR : Rel S G g nt s a w) {i : Nat} (e : frozen i s = some s1) : ∃ g1, Goes S G nt g g1 s s1 a a w w := by
 simp only [frozen] at e
 split at e
 ·rename_i p off hi
  split at e
  ·rename_i cs hcs
   split at e
   ·rename_i hpure
    simp only [Option.some.injEq] at e
    subst e
    have hle : g.Le (g.kill s.h w (fun r => r = p) g.A) := b2Q hR.hp (fun _ h => h)
    have hev : RV S (g.kill s.h w (fun r => r = p) g.A) (.sc (.eptr (cs.map Pm.a0r) off)) (a.tmps.getD i undef) := by
     have ht := hR.tm i
     rw [hi] at ht
     cases ht with
     | rv _ _ h =>
      obtain ⟨_, hx⟩ := h.a3J
      rw [hx]
      exact .sc _ _ (b4f (D := fun r => r = p) (A := g.A) hR.hp hcs rfl (by simp) hpure (fun j c c' v h1 h2 h3 => by
       rw [List.getElem?_map, h1] at h2
       simp only [Option.map_some, Option.some.injEq] at h2
       subst h2
       exact h3.a0r.mono hle) off)
    refine ⟨_, (Goes.refl hR).kills (b0Z hR.hp hcs) (fun _ h => h) (fun j => ?_) (fun j b hc => ?_)⟩
    ·show RT S _ w (get ((i, _) :: s.t) j) _
     simp only [get]
     split
     ·rename_i hij; subst hij; exact .rv _ _ hev
     ·exact a8A hR j
    ·obtain ⟨es, l, ad, n, cap, h1, h2, h3⟩ := hc
     simp only [get] at h1
     split at h1
     ·cases h1
     ·exact ⟨es, l, ad, n, cap, h1, h2, h3⟩
   ·cases e
  ·cases e
 ·cases e
theorem b4d (hR : RelH S G g h w) {D A : Nat -> Prop} {p : Nat} {ka va : Bool} {l : List (List C × List C)} (hp : h[p]? = some (.map ka va l none)) (hD : D p) :
 RC S (g.kill h w D A) (.imap ka va l) (.map (some (g.σ p))) := by
 obtain ⟨es, hb, h1, h2, h3, _⟩ := hR.ob p _ hp
 simp at h2
 have hN : (g.kill h w D A).N (g.σ p) = some es := by
  simp only [Gh.kill]
  rw [if_pos ⟨p, _, hD, hp, rfl, rfl⟩, hb]
 have hex : ∀ i : Nat, ∃ q : List Value × List Value, ∀ e, l[i]? = some e -> ∃ m, es[i]? = some m /\ (m.key = ofV ka q.1 /\ q.1.length = e.1.length /\ (ka = false -> e.1.length = 1) /\ ∀ (j : Nat) c x, e.1[j]? = some c -> q.1[j]? = some x -> RC S g c x) ∧
  (m.val = ofV va q.2 /\ q.2.length = e.2.length /\ (va = false -> e.2.length = 1) /\ ∀ (j : Nat) c x, e.2[j]? = some c -> q.2[j]? = some x -> RC S g c x) /\ C.a0v e.1 = true /\ C.a0v e.2 = true := by
  intro i
  cases hi : l[i]? with
  | none => exact ⟨([], []), fun e he => by cases he⟩
  | some e =>
   have hlt : i < es.size := by rw [h2]; exact (List.getElem?_eq_some_iff.1 hi).1
   obtain ⟨⟨ks, k1⟩, ⟨vs, k2⟩, k3, k4⟩ := h3 i e _ hi (Array.getElem?_eq_getElem hlt)
   refine ⟨(ks, vs), fun e' he => ?_⟩
   cases he
   exact ⟨es[i], Array.getElem?_eq_getElem hlt, k1, k2, k3, k4⟩
 let kv : Nat -> List Value := fun i => (Classical.choose (hex i)).1
 let vv : Nat -> List Value := fun i => (Classical.choose (hex i)).2
 have key : ∀ (i : Nat) e, l[i]? = some e -> ∃ m, es[i]? = some m /\ (m.key = ofV ka (kv i) /\ (kv i).length = e.1.length /\ (ka = false -> e.1.length = 1) /\ ∀ (j : Nat) c x, e.1[j]? = some c -> (kv i)[j]? = some x -> RC S g c x) ∧
  (m.val = ofV va (vv i) /\ (vv i).length = e.2.length /\ (va = false -> e.2.length = 1) /\ ∀ (j : Nat) c x, e.2[j]? = some c -> (vv i)[j]? = some x -> RC S g c x) /\ C.a0v e.1 = true /\ C.a0v e.2 = true :=
  fun i e hi => Classical.choose_spec (hex i) e hi
 refine .imap ka va l (g.σ p) es kv vv hN h2 (fun i e hi => ?_) (fun i e hi => ?_) (fun i e j c v hi hc hv => ?_) (fun i e j c v hi hc hv => ?_)
 ·obtain ⟨m, hm, k1, k2, _⟩ := key i e hi
  exact ⟨m, hm, k1.1, k2.1⟩
 ·obtain ⟨m, hm, k1, k2, k3, k4⟩ := key i e hi
  exact ⟨k1.2.1, k2.2.1, k1.2.2.1, k2.2.2.1, k3, k4⟩
 ·obtain ⟨m, hm, k1, k2, k3, k4⟩ := key i e hi
  exact (k1.2.2.2 j c v hc hv).a3I (a2d k3 hc) (fun _ _ _ e => a3O hR e) (fun _ _ e => a3A hR e)
 ·obtain ⟨m, hm, k1, k2, k3, k4⟩ := key i e hi
  exact (k2.2.2.2 j c v hc hv).a3I (a2d k4 hc) (fun _ _ _ e => a3O hR e) (fun _ _ e => a3A hR e)
end
end Go.Pm
namespace Go.Pm
section
variable {S : Seat} {G : List Nat} {g g' g'' g1 : Gh} {nt : Nat} {s s' s'' s1 : St} {a a' a'' a1 : Act} {w w' w'' w1 : World} {h h' : List Obj} {base : Nat}
theorem b0E : ∀ (n : Nat) (cs : List C) (off es : Nat) (l : List (List C)), chunks cs off es n = some l -> l.length = n /\ ∀ i e, l[i]? = some e -> e.length = es /\ ∀ j, j < es -> e[j]? = cs[off + i * es + j]?
 | 0, cs, off, es, l, e => by simp only [chunks, Option.some.injEq] at e; subst e; exact ⟨rfl, fun i e h => by simp at h⟩
 | n + 1, cs, off, es, l, e => by
  simp only [chunks] at e
  split at e
  ·rename_i c hc
   simp only [Option.map_eq_some_iff] at e
   obtain ⟨r, hr, rfl⟩ := e
   obtain ⟨h1, h2⟩ := b0E n cs (off + es) es r hr
   obtain ⟨h3, h4⟩ := a6i es cs off c hc
   refine ⟨by simp [h1], fun i e hi => ?_⟩
   rcases i with _ | i
   ·simp at hi
    subst hi
    exact ⟨h3, fun j hj => by rw [h4 j hj]; congr 1; omega⟩
   ·obtain ⟨k1, k2⟩ := h2 i e (by simpa using hi)
    exact ⟨k1, fun j hj => by rw [k2 j hj]; congr 1; rw [Nat.add_mul, Nat.one_mul]; omega⟩
  ·cases e
theorem b4e (hR : RelH S G g h w) {D A : Nat -> Prop} {p : Nat} {cs : List C} (hp : h[p]? = some (.var cs)) (hD : D p) {vals : Array Value} {elem : TypeId} (hb : w.heap[g.σ p]? = some (.cells vals elem (0, 0))) {cs2 : List C} (hl : cs2.length = cs.length) (hpure : C.a0v cs2 = true)
 (hr : ∀ (j : Nat) c v, cs2[j]? = some c -> vals[j]? = some v -> RC S (g.kill h w D A) c v) {off len es cap cap' : Nat} {l : List (List C)} (hc : chunks cs2 off es len = some l) (hle : len <= cap') (hcc : cap = 0 \/ cap = cap') :
 RC S (g.kill h w D A) (.sl (if cap = len /\ cap ≠ 0 then .full else .shared) es l) (.slice (some ⟨g.σ p, off, none⟩) len cap') := by
 obtain ⟨vals', elem', hb', hs, _⟩ := hR.ob p _ hp
 rw [hb] at hb'
 simp only [Option.some.injEq, Obj.cells.injEq] at hb'
 obtain ⟨rfl, rfl, _⟩ := hb'
 obtain ⟨c1, c2⟩ := b0E len cs2 off es l hc
 subst c1
 have key : ∀ (i : Nat) (e : List C) (j : Nat), l[i]? = some e -> j < es -> ∃ c v, e[j]? = some c /\ cs2[off + i * es + j]? = some c /\ vals[off + i * es + j]? = some v /\ (g.kill h w D A).M (g.σ p) (off + i * es + j) = some v := fun i e j hi hj => by
  obtain ⟨k1, k2⟩ := c2 i e hi
  have hej : e[j]? = some (e[j]'(by omega)) := List.getElem?_eq_getElem _
  have h3 := k2 j hj
  rw [hej] at h3
  have hlt : off + i * es + j < cs.length := by rw [← hl]; exact (List.getElem?_eq_some_iff.1 h3.symm).1
  have hlt2 : off + i * es + j < vals.size := by omega
  refine ⟨_, vals[off + i * es + j], hej, h3.symm, Array.getElem?_eq_getElem hlt2, ?_⟩
  simp only [Gh.kill]
  rw [if_pos ⟨p, cs, hD, hp, rfl⟩, cell_of_heap hb, Array.getElem?_eq_getElem hlt2]
 have hpl : ∀ (i : Nat) (e : List C), l[i]? = some e -> C.a0v e = true := fun i e hi => by
  refine b0j.2 fun c hc => ?_
  obtain ⟨j, hj⟩ := List.getElem?_of_mem hc
  have hjl : j < es := by rw [← (c2 i e hi).1]; exact (List.getElem?_eq_some_iff.1 hj).1
  obtain ⟨c', v, k1, k2, _⟩ := key i e j hi hjl
  rw [hj] at k1
  cases k1
  exact a2d hpure k2
 refine .sl _ es l (g.σ p) off cap' (fun i j => (vals[off + i * es + j]?).getD undef) (by split <;> simp) (fun hk => ?_) hle (fun i e hi => (c2 i e hi).1) hpl (fun i e j hi hj => ?_) (fun i e j c hi hj => ?_)
 ·split at hk
  ·omega
  ·cases hk
 ·obtain ⟨c, v, _, _, k3, k4⟩ := key i e j hi hj
  rw [k4, k3]; rfl
 ·have hjl : j < es := by rw [← (c2 i e hi).1]; exact (List.getElem?_eq_some_iff.1 hj).1
  obtain ⟨c', v, k1, k2, k3, k4⟩ := key i e j hi hjl
  rw [hj] at k1
  cases k1
  rw [k3]
  exact hr _ c v k2 k3
def c3j (S : Seat) (G : List Nat) (nt : Nat) (a : Act) (w : World) (n : Nat) : Prop :=
 (∀ (c c' : C) (s : St) (h' : List Obj) (g : Gh), Rel S G g nt s a w -> a3p n c s.h = some (c', h') →
  ∃ g', Goes S G nt g g' s ⟨s.t, h'⟩ a a w w /\ (c' = c \/ (c'.pure = true /\ (∀ es l, c ≠ .own es l) /\ ∀ v, RC S g c v -> RC S g' c' v)) /\ ∀ (r : Nat) x, h'[r]? = some (.var x) -> s.h[r]? = some (.var x)) ∧
 (∀ (cs cs' : List C) (s : St) (h' : List Obj) (g : Gh), Rel S G g nt s a w -> a2Z n cs s.h = some (cs', h') →
  ∃ g', Goes S G nt g g' s ⟨s.t, h'⟩ a a w w /\ cs'.length = cs.length ∧
   (∀ (j : Nat) c', cs'[j]? = some c' -> ∃ c, cs[j]? = some c /\ (c' = c \/ (c'.pure = true /\ (∀ es l, c ≠ .own es l) /\ ∀ v, RC S g c v -> RC S g' c' v))) /\ ∀ (r : Nat) x, h'[r]? = some (.var x) -> s.h[r]? = some (.var x))
theorem a9X : ∀ n, c3j S G nt a w n
 | 0 => ⟨fun c c' s h' g _ e => by simp [a3p] at e, fun cs cs' s h' g _ e => by simp [a2Z] at e⟩
 | n + 1 => by
  obtain ⟨ih1, ih2⟩ := a9X n
  refine ⟨fun c c' s h' g hR e => ?_, fun cs cs' s h' g hR e => ?_⟩
  ·have other : some (c, s.h) = some (c', h') -> ∃ g', Goes S G nt g g' s ⟨s.t, h'⟩ a a w w /\ (c' = c \/ (c'.pure = true /\ (∀ es l, c ≠ .own es l) /\ ∀ v, RC S g c v -> RC S g' c' v)) /\ ∀ (r : Nat) x, h'[r]? = some (.var x) -> s.h[r]? = some (.var x) := fun e => by
    simp only [Option.some.injEq, Prod.mk.injEq] at e
    obtain ⟨rfl, rfl⟩ := e
    exact ⟨g, .refl hR, .inl rfl, fun _ _ h => h⟩
   unfold a3p at e
   split at e
   ·rename_i p
    split at e
    ·rename_i ka va l hp
     simp only [Option.some.injEq, Prod.mk.injEq] at e
     obtain ⟨rfl, rfl⟩ := e
     have him := b4d (D := fun r => r = p) (A := g.A) hR.hp hp rfl
     refine ⟨_, Goes.die hR hp, .inr ⟨rfl, by simp, fun v hv => ?_⟩, fun r x hx => ?_⟩
     ·obtain ⟨_, rfl⟩ := a7G (.sc _ _ hv)
      exact him
     ·rcases a3H hx with ⟨_, h2, _⟩ | ⟨_, h2⟩
      ·cases h2
      ·exact h2
    ·rename_i n0 f0 hp
     simp only [Option.some.injEq, Prod.mk.injEq] at e
     obtain ⟨rfl, rfl⟩ := e
     have him := b0Y (D := fun r => r = p) (A := g.A) hR.hp hp rfl
     refine ⟨_, Goes.die hR hp, .inr ⟨rfl, by simp, fun v hv => ?_⟩, fun r x hx => ?_⟩
     ·obtain ⟨_, rfl⟩ := a7G (.sc _ _ hv)
      exact him
     ·rcases a3H hx with ⟨_, h2, _⟩ | ⟨_, h2⟩
      ·cases h2
      ·exact h2
    ·cases e
   ·rename_i r off len cap es
    split at e
    ·rename_i cs hcs
     split at e
     ·rename_i cs2 h1 hm
      split at e
      ·rename_i cs3 hr1
       split at e
       ·rename_i hpure
        simp only [Option.map_eq_some_iff, Prod.mk.injEq] at e
        obtain ⟨l, hl, rfl, rfl⟩ := e
        obtain ⟨g1, hG1, hlen, hrel, hkeep⟩ := ih2 (cs.map a0r) cs2 s h1 g hR hm
        have hcs3 := hkeep r cs3 hr1
        rw [hcs] at hcs3
        simp only [Option.some.injEq, Obj.var.injEq] at hcs3
        subst hcs3
        have hA := hR.hp.lv r _ hcs rfl
        obtain ⟨vals, elem, hb, hs, hro⟩ := hR.hp.ob r _ hcs
        have hσ : g1.σ r = g.σ r := hG1.le.eq r hA
        have hle : g1.Le (g1.kill h1 w (fun x => x = r) g1.A) := b2Q hG1.rel.hp (fun _ h => h)
        refine ⟨_, hG1.trans (Goes.die hG1.rel hr1), .inr ⟨rfl, by simp, fun v hv => ?_⟩, fun q x hx => ?_⟩
        ·cases hv with
         | msl _ _ _ _ _ cap' hA' hle' hcc =>
          have := b4e (D := fun x => x = r) (A := g1.A) hG1.rel.hp hr1 rfl (by rw [hσ]; exact hb) (by rw [hlen]; simp) hpure (fun j c v hc hv => by
           obtain ⟨c0, hc0, hcase⟩ := hrel j c hc
           rw [List.getElem?_map] at hc0
           cases hcj : cs[j]? with
           | none => rw [hcj] at hc0; cases hc0
           | some c1 =>
            rw [hcj] at hc0
            simp only [Option.map_some, Option.some.injEq] at hc0
            subst hc0
            have hrc := (hro j c1 v hcj hv).a0r
            rcases hcase with rfl | ⟨_, _, h3⟩
            ·exact (hrc.mono hG1.le).mono hle
            ·exact (h3 v hrc).mono hle) hl hle' hcc
          rw [hσ] at this
          exact this
        ·rcases a3H hx with ⟨_, h2, _⟩ | ⟨_, h2⟩
         ·cases h2
         ·exact hkeep q x h2
       ·cases e
      ·cases e
     ·cases e
    ·cases e
   ·exact other e
  ·cases cs with
   | nil =>
    simp only [a2Z, Option.some.injEq, Prod.mk.injEq] at e
    obtain ⟨rfl, rfl⟩ := e
    exact ⟨g, .refl hR, rfl, fun j c h => by simp at h, fun _ _ h => h⟩
   | cons c cs =>
    simp only [a2Z] at e
    split at e
    ·rename_i c1 h1 hc1
     split at e
     ·rename_i cs1 h2 hcs1
      simp only [Option.some.injEq, Prod.mk.injEq] at e
      obtain ⟨rfl, rfl⟩ := e
      obtain ⟨g1, hG1, hr1, hk1⟩ := ih1 c c1 s h1 g hR hc1
      obtain ⟨g2, hG2, hlen, hr2, hk2⟩ := ih2 cs cs1 ⟨s.t, h1⟩ h2 g1 hG1.rel hcs1
      refine ⟨g2, hG1.trans hG2, by simp [hlen], fun j c' hj => ?_, fun r x hx => hk1 r x (hk2 r x hx)⟩
      rcases j with _ | j
      ·simp at hj
       subst hj
       refine ⟨c, rfl, ?_⟩
       rcases hr1 with h | ⟨h, h0, h3⟩
       ·exact .inl h
       ·exact .inr ⟨h, h0, fun v hv => (h3 v hv).mono hG2.le⟩
      ·obtain ⟨c0, h0, h3⟩ := hr2 j c' (by simpa using hj)
       refine ⟨c0, by simpa using h0, ?_⟩
       rcases h3 with h | ⟨h, h4, h5⟩
       ·exact .inl h
       ·exact .inr ⟨h, h4, fun v hv => h5 v (hv.mono hG1.le)⟩
     ·cases e
    ·cases e
theorem Goes.b4T (hR : Rel S G g nt s a w) {t : List (Nat × V)} (ht : ∀ i, get t i = get s.t i \/ RV S g (get t i) (a.tmps.getD i undef)) : Goes S G nt g g s { t := t, h := s.h } a a w w where
 le := .refl g
 rel := hR.b4T ht
 keeps := .refl _ w
 back := fun b _ hp => by
  rcases hp with h | ⟨i, es, l, ad, n, cap, h1, h2, h3⟩
  ·exact .inl h
  ·have h1' : get t i = .sc (.own es l) := h1
   rcases ht i with e | e
   ·rw [e] at h1'; exact .inr ⟨i, es, l, ad, n, cap, h1', h2, h3⟩
   ·rw [h1'] at e
    cases e with
    | sc _ _ h => exact absurd rfl (h.a2a es l)
 im := fun _ _ _ h => .inl h
 mm := fun _ _ h => .inl h
theorem b4p (hR : Rel S G g nt s a w) {i : Nat} (e : a3G i s = some s1) : ∃ g1, Goes S G nt g g1 s s1 a a w w := by
 simp only [a3G] at e
 split at e
 ·rename_i p off hi
  split at e
  ·rename_i cs hcs
   split at e
   ·rename_i cs' h' hm
    split at e
    ·rename_i cs3 hp
     simp only [Option.some.injEq] at e
     subst e
     obtain ⟨g1, h1, h2, h3, h4⟩ := (a9X (S := S) (G := G) (nt := nt) (a := a) (w := w) 400).2 cs cs' s h' g hR hm
     have hcs3 := h4 p cs3 hp
     rw [hcs] at hcs3
     simp only [Option.some.injEq, Obj.var.injEq] at hcs3
     subst hcs3
     obtain ⟨vals, elem, hb, hs, hro⟩ := h1.rel.hp.ob p _ hp
     obtain ⟨vals0, elem0, hb0, _, hro0⟩ := hR.hp.ob p _ hcs
     have hσ : g1.σ p = g.σ p := h1.le.eq p (hR.hp.lv p _ hcs rfl)
     rw [hσ] at hb
     rw [hb0] at hb
     simp only [Option.some.injEq, Obj.cells.injEq] at hb
     obtain ⟨rfl, rfl, _⟩ := hb
     have hplt : p < h'.length := (List.getElem?_eq_some_iff.1 hp).1
     have hgo := Goes.modify (takes := []) (off0 := 0) (o' := .var cs') (w' := w) h1.rel hp rfl rfl (fun _ _ => rfl) rfl rfl rfl rfl ⟨vals0, elem0, by rw [hσ]; exact hb0, by rw [h2]; exact hs, fun j c' v e1 e2 => by
      obtain ⟨c, hc, h | ⟨k1, k2, k3⟩⟩ := h3 j c' e1
      ·subst h; exact hro j c' v hc e2
      ·have := hro0 j _ v hc e2
       cases this with
       | rc _ _ hrc => exact .rc _ _ (k3 v hrc)
       | own es l => exact absurd rfl (k2 es l)⟩ (fun j b hc => by
      obtain ⟨cs2, es, l, vals, elem, fr, ad, n, cap, e1, e2, e3, e4, e5⟩ := hc
      simp [hplt] at e1
      subst e1
      obtain ⟨c, hc, h | ⟨k1, _, _⟩⟩ := h3 j _ e2
      ·subst h; exact .inl ⟨cs, es, l, vals, elem, fr, ad, n, cap, hp, hc, e3, e4, e5⟩
      ·simp [C.pure] at k1)
     exact ⟨g1, h1.trans hgo⟩
    ·cases e
   ·cases e
  ·cases e
 ·rename_i r off len cap es hi
  split at e
  ·rename_i c' h' hc
   simp only [Option.some.injEq] at e
   subst e
   obtain ⟨g1, h1, h2, _⟩ := (a9X (S := S) (G := G) (nt := nt) (a := a) (w := w) 400).1 _ c' s h' g hR hc
   refine ⟨g1, h1.trans (Goes.b4T h1.rel (t := (i, .sc c') :: s.t) fun j => ?_)⟩
   show get ((i, V.sc c') :: s.t) j = get s.t j \/ _
   simp only [get]
   split
   ·rename_i hij
    subst hij
    rcases h2 with rfl | ⟨_, _, h3⟩
    ·exact .inl hi.symm
    ·have ht := hR.tm i
     rw [hi] at ht
     cases ht with
     | rv _ _ h =>
      cases h with
      | sc _ _ h => exact .inr (.sc _ _ (h3 _ h))
   ·exact .inl rfl
  ·cases e
 ·simp only [Option.some.injEq] at e
  subst e
  exact ⟨g, .refl hR⟩
 ·cases e
/-! ### What a call hands back -/
noncomputable def Gh.above (g : Gh) (h : List Obj) (w : World) (b : Nat) : Gh := g.kill h w (fun r => b <= r) (fun r => g.A r /\ r < b)
theorem b4r (hR : RelH S G g h w) (b : Nat) : ∀ n, (∀ c c' v, frz b h n c = some c' -> RO S g w c v -> RC S (g.above h w b) c' v) ∧
 (∀ cs cs', frzL b h n cs = some cs' -> cs'.length = cs.length /\ ∀ (j : Nat) c c' v, cs[j]? = some c -> cs'[j]? = some c' -> RO S g w c v -> RC S (g.above h w b) c' v)
 | 0 => ⟨fun c c' v e => by simp [frz] at e, fun cs cs' e => by simp [frzL] at e⟩
 | n + 1 => by
  obtain ⟨ih1, ih2⟩ := b4r hR b n
  have pure : ∀ {c v}, c.pure = true -> RC S g c v -> RC S (g.above h w b) c v := fun hp hr => hr.a3I hp (fun _ _ _ e => a3O hR e) (fun _ _ e => a3A hR e)
  refine ⟨fun c c' v e hro => ?_, fun cs cs' e => ?_⟩
  ·cases hro with
   | own es l blk off cap ho =>
    simp only [frz, Option.some.injEq] at e
    subst e
    exact pure rfl ho.rel
   | rc _ _ hrc =>
    cases hrc with
    | int k m => simp only [frz, Option.some.injEq] at e; subst e; exact .int k m
    | bool x => simp only [frz, Option.some.injEq] at e; subst e; exact .bool x
    | str x => simp only [frz, Option.some.injEq] at e; subst e; exact .str x
    | nilf => simp only [frz, Option.some.injEq] at e; subst e; exact .nilf
    | nilp => simp only [frz, Option.some.injEq] at e; subst e; exact .nilp
    | nili => simp only [frz, Option.some.injEq] at e; subst e; exact .nili
    | slNil es => simp only [frz, Option.some.injEq] at e; subst e; exact .slNil es
    | sl k es l blk off cap vals hk hf hc hl hp hM hr =>
     simp only [frz, Option.some.injEq] at e
     subst e
     exact pure rfl (.sl k es l blk off cap vals hk hf hc hl hp hM hr)
    | imapNil ka va => simp only [frz, Option.some.injEq] at e; subst e; exact .imapNil ka va
    | iset n f r es hN hb hE => simp only [frz, Option.some.injEq] at e; subst e; exact pure rfl (.iset n f r es hN hb hE)
    | imap ka va l r es kv vv hN hs hE hL hK hV =>
     simp only [frz, Option.some.injEq] at e
     subst e
     exact pure rfl (.imap ka va l r es kv vv hN hs hE hL hK hV)
    | eptr cs off blk o vals hp hM hr =>
     simp only [frz, Option.some.injEq] at e
     subst e
     exact pure rfl (.eptr cs off blk o vals hp hM hr)
    | fn id sh first cap fs fvs cvs hlen hu hr hcl hc =>
     simp only [frz] at e
     split at e
     ·rename_i x y hx hy
      simp only [Option.some.injEq] at e
      subst e
      obtain ⟨l1, r1⟩ := ih2 _ _ hx
      obtain ⟨l2, r2⟩ := ih2 _ _ hy
      refine .fn id sh x y fs fvs cvs (by omega) hu (fun j c' v hj hv => ?_) (by omega) (fun j c' v hj hv => ?_)
      ·have hlt : j < first.length := by rw [← l1]; exact (List.getElem?_eq_some_iff.1 hj).1
       exact r1 j _ c' v (List.getElem?_eq_getElem hlt) hj (.rc _ _ (hr j _ v (List.getElem?_eq_getElem hlt) hv))
      ·have hlt : j < cap.length := by rw [← l2]; exact (List.getElem?_eq_some_iff.1 hj).1
       exact r2 j _ c' v (List.getElem?_eq_getElem hlt) hj (.rc _ _ (hc j _ v (List.getElem?_eq_getElem hlt) hv))
     ·cases e
    | yield l hA =>
     simp only [frz] at e
     split at e
     ·rename_i hlt
      simp only [Option.some.injEq] at e
      subst e
      exact RC.yield (g := g.above h w b) l ⟨hA, hlt⟩
     ·cases e
    | stamp r i hA => simp [frz] at e
    | ptr r off hA =>
     simp only [frz] at e
     split at e
     ·rename_i hlt
      simp only [Option.some.injEq] at e
      subst e
      exact RC.ptr (g := g.above h w b) r off ⟨hA, hlt⟩
     ·rename_i hge
      split at e
      ·rename_i cs hcs
       split at e
       ·rename_i cs2 hf
        split at e
        ·rename_i hp
         simp only [Option.some.injEq] at e
         subst e
         obtain ⟨l1, r1⟩ := ih2 _ _ hf
         exact b4f (D := fun r => b <= r) hR hcs (by omega) l1 hp r1 off
        ·cases e
       ·cases e
      ·cases e
    | map r hA =>
     simp only [frz] at e
     split at e
     ·rename_i hlt
      simp only [Option.some.injEq] at e
      subst e
      exact RC.map (g := g.above h w b) r ⟨hA, hlt⟩
     ·rename_i hge
      split at e
      ·rename_i ka va l hm
       simp only [Option.some.injEq] at e
       subst e
       exact b4d (D := fun r => b <= r) hR hm (by omega)
      ·rename_i n0 f0 hm
       simp only [Option.some.injEq] at e
       subst e
       exact b0Y (D := fun r => b <= r) hR hm (by omega)
      ·cases e
    | msl r off len cap es cap' hA hle hcc =>
     simp only [frz] at e
     split at e
     ·rename_i hlt
      simp only [Option.some.injEq] at e
      subst e
      exact RC.msl (g := g.above h w b) r off len cap es cap' ⟨hA, hlt⟩ hle hcc
     ·rename_i hge
      split at e
      ·rename_i cs hcs
       split at e
       ·rename_i cs2 hf
        split at e
        ·rename_i hp
         simp only [Option.map_eq_some_iff] at e
         obtain ⟨l, hl, rfl⟩ := e
         obtain ⟨l1, r1⟩ := ih2 _ _ hf
         obtain ⟨vals, elem, hb, hs, hro⟩ := hR.ob r _ hcs
         exact b4e (D := fun r => b <= r) hR hcs (by show b <= r; omega) hb l1 hp (fun j c v hc hv => by
          have hlt : j < cs.length := by rw [← l1]; exact (List.getElem?_eq_some_iff.1 hc).1
          exact r1 j _ c v (List.getElem?_eq_getElem hlt) hc (hro j _ v (List.getElem?_eq_getElem hlt) hv)) hl hle hcc
        ·cases e
       ·cases e
      ·cases e
  ·cases cs with
   | nil =>
    simp only [frzL, Option.some.injEq] at e
    subst e
    exact ⟨rfl, fun j c c' v h => by simp at h⟩
   | cons c cs =>
    simp only [frzL] at e
    split at e
    ·rename_i x y hx hy
     simp only [Option.some.injEq] at e
     subst e
     obtain ⟨l1, r1⟩ := ih2 _ _ hy
     refine ⟨by simp [l1], fun j c1 c2 v h1 h2 hr => ?_⟩
     rcases j with _ | j
     ·simp at h1 h2
      subst h1; subst h2
      exact ih1 _ _ v hx hr
     ·exact r1 j c1 c2 v (by simpa using h1) (by simpa using h2) hr
    ·cases e
theorem c0P (hR : RelH S G g h w) {b : Nat} {v v' : V} {x : Value} (e : frzV b h v = some v') (hv : RV S g v x) : RV S (g.above h w b) v' x := by
 cases hv with
 | top =>
  simp [frzV, frz] at e
  subst e
  exact .top _
 | sc c _ hc =>
  simp only [frzV, Option.map_eq_some_iff] at e
  obtain ⟨c', h1, rfl⟩ := e
  exact .sc _ _ ((b4r hR b 64).1 c c' _ h1 (.rc _ _ hc))
 | agg cs vals hs hr =>
  simp only [frzV, Option.map_eq_some_iff] at e
  obtain ⟨cs', h1, rfl⟩ := e
  obtain ⟨l1, r1⟩ := (b4r hR b 128).2 cs cs' h1
  refine .agg _ _ (by omega) fun j c' y h2 h3 => ?_
  have hlt : j < cs.length := by rw [← l1]; exact (List.getElem?_eq_some_iff.1 h2).1
  exact r1 j _ c' y (List.getElem?_eq_getElem hlt) h2 (.rc _ _ (hr j _ y (List.getElem?_eq_getElem hlt) h3))
 | tup => simp [frzV] at e
theorem b4q (hR : RelH S G g h w) {b : Nat} : ∀ {vs vs' : List V} {xs : List Value}, a4X b h vs = some vs' -> RVs S g vs xs -> RVs S (g.above h w b) vs' xs
 | [], vs', xs, e, hx => by
  simp only [a4X, Option.some.injEq] at e
  subst e
  exact ⟨hx.1, fun j v x h => by simp at h⟩
 | v :: vs, vs', xs, e, hx => by
  simp only [a4X] at e
  split at e
  ·rename_i v1 vs1 h1 h2
   simp only [Option.some.injEq] at e
   subst e
   cases xs with
   | nil => have := hx.1; simp at this
   | cons x xs =>
    have ih := b4q hR (xs := xs) h2 ⟨by simpa using hx.1, fun j v x a b => hx.2 (j + 1) v x (by simpa using a) (by simpa using b)⟩
    refine ⟨by simp [ih.1], fun j v' x' k1 k2 => ?_⟩
    rcases j with _ | j
    ·simp at k1 k2
     subst k1; subst k2
     exact c0P hR h1 (hx.2 0 v x rfl rfl)
    ·exact ih.2 j v' x' (by simpa using k1) (by simpa using k2)
  ·cases e
/-! ### A callee's slots; marks -/
theorem a6h.of (h0 : ∀ i b, ¬ a0S s.t a.tmps i b) (hG : Goes S G nt g g' s s' a a' w w') : a6h S G g g' s.h s'.h w w' := by
 have hp : ∀ b, Perm g s a w b -> a9f g s.h w b := fun b hp => hp.resolve_right fun ⟨i, hc⟩ => h0 i b hc
 exact ⟨hG.le, hG.rel.hp.rel, hG.keeps.mono fun b _ h => .inl (hp b h), fun b hb h => .inl (hp b (hG.back b hb (.inl (a4p h)))),
  fun b o v e => (hG.im b o v e).imp id (Or.imp id fun h => .inl (hp b h)), fun b es e => (hG.mm b es e).imp id (Or.imp id fun h => .inl (hp b h))⟩
theorem a6h.above (hG : a6h S G g g1 h h' w w') {b : Nat} (hun : (h'.take b).all (Obj.under b) = true) (hb : ∀ r, g.A r -> r < b) : a6h S G g (g1.above h' w' b) h (h'.take b) w w' :=
 Goes.kills hG (a9T hG.rel.hp b hun) (fun r hA => ⟨hG.le.as r hA, hb r hA⟩) (fun i => .rv _ _ (.top _)) (fun i b c => absurd c a5z)
structure Other (g : Gh) (h : List Obj) (w : World) (b : Nat) : Prop where
 c : ∀ cs t fr, w.heap[b]? ≠ some (.cells cs t fr)
 m : ∀ es n, w.heap[b]? ≠ some (.map es n)
 o : ∀ (r : Nat) o, h[r]? = some o -> live o = true -> g.σ r ≠ b
theorem RelH.poke (hR : RelH S G g h w) {b : Nat} {ob : Go.Obj} (hO : Other g h w b) : RelH S G g h (w.putObj b ob) := by
 have same : ∀ b', b' ≠ b -> (w.putObj b ob).heap[b']? = w.heap[b']? := fun b' h => World.putObj_heap_other h
 have hc0 : ∀ {es l c off cap}, OwnAt S g w es l c off cap -> c ≠ b := fun ho h => by
  obtain ⟨cs, elem, hb, _⟩ := ho.blk
  rw [h] at hb
  exact hO.c _ _ _ hb
 have hcl : ∀ r j c, a1e g h (w.putObj b ob) r j c -> a1e g h w r j c := by
  rintro r j c ⟨cs, es, l, vals, elem, fr, ad, n, cap, h1, h2, h3, h4, h5⟩
  rw [same _ (hO.o r _ h1 rfl)] at h3
  exact ⟨cs, es, l, vals, elem, fr, ad, n, cap, h1, h2, h3, h4, h5⟩
 refine ⟨fun r o e => ?_, hR.as, hR.lv, hR.inj, fun c k v e => ?_, fun c es e => ?_, hR.djM, hR.djN, hR.gl, fun r j r' j' c c1 c2 => hR.ex r j r' j' c (hcl _ _ _ c1) (hcl _ _ _ c2), fun r j c r' o c1 e hl => hR.cl r j c r' o (hcl _ _ _ c1) e hl⟩
 ·refine RObj.same e (hR.ob r o e) (.refl g) (fun _ => rfl) (fun hl => same _ (hO.o r o e hl)) fun j c hc => ⟨same c fun hcb => ?_, fun _ => rfl⟩
  obtain ⟨cs, es, l, vals, elem, fr, ad, n, cap, h1, h2, h3, h4, h5⟩ := hc
  obtain ⟨vals', elem', hb', _, hro⟩ := hR.ob r _ h1
  rw [hb'] at h3
  simp only [Option.some.injEq, Obj.cells.injEq] at h3
  obtain ⟨rfl, rfl, _⟩ := h3
  have := hro j _ _ h2 h4
  cases this with
  | rc _ _ h => exact absurd rfl (h.a2a es l)
  | own es l c' off cap ho =>
   have h5' : c' = c := h5
   exact hc0 ho (h5'.trans hcb)
 ·have h0 := hR.im c k v e
  have hcb : c ≠ b := by
   rintro rfl
   simp only [World.cell?] at h0
   split at h0
   ·rename_i hb; exact hO.c _ _ _ hb
   ·cases h0
  simp only [World.cell?] at h0 ⊢
  rw [same c hcb]; exact h0
 ·obtain ⟨n, hn, h0⟩ := hR.mm c es e
  have hcb : c ≠ b := by rintro rfl; exact hO.m _ _ hn
  exact ⟨n, by rw [same c hcb]; exact hn, h0⟩
theorem Goes.poke (hG : Goes S G nt g g' s s' a a' w w') {b : Nat} {ob : Go.Obj} (hb : w.heap.size <= b) (hO : Other g' s'.h w' b) : Goes S G nt g g' s s' a a' w (w'.putObj b ob) := by
 have same : ∀ b', b' ≠ b -> (w'.putObj b ob).heap[b']? = w'.heap[b']? := fun b' h => World.putObj_heap_other h
 have hcl : ∀ r j c, a1e g' s'.h (w'.putObj b ob) r j c -> a1e g' s'.h w' r j c := by
  rintro r j c ⟨cs, es, l, vals, elem, fr, ad, n, cap, h1, h2, h3, h4, h5⟩
  rw [same _ (hO.o r _ h1 rfl)] at h3
  exact ⟨cs, es, l, vals, elem, fr, ad, n, cap, h1, h2, h3, h4, h5⟩
 have hR := hG.rel
 refine ⟨hG.le, ⟨hR.hp.poke hO, hR.sz, fun i => ?_, hR.exT, fun i c r j d e => hR.exTH i c r j d (hcl _ _ _ e), hR.clT⟩, ⟨by simpa using hG.keeps.size, fun c hc hn => ?_, hG.keeps.out, hG.keeps.os, hG.keeps.tape⟩, fun c hc hp => hG.back c hc ?_, hG.im, hG.mm⟩
 ·have ht := hR.tm i
  generalize get s'.t i = v at ht
  generalize a'.tmps.getD i undef = x at ht
  cases ht with
  | rv _ _ h => exact .rv _ _ h
  | own es l c off cap ho =>
   refine .own _ _ _ _ _ (ho.mono (.refl g') (same c fun h => ?_) (fun _ => rfl))
   obtain ⟨cs, elem, hb, _⟩ := ho.blk
   rw [h] at hb
   exact hO.c _ _ _ hb
 ·rw [same c (by omega)]; exact hG.keeps.same c hc hn
 ·rcases hp with (h | ⟨r, j, h⟩) | h
  ·exact .inl (.inl h)
  ·exact .inl (.inr ⟨r, j, hcl _ _ _ h⟩)
  ·exact .inr h
def Dfs (n : Nat) (a : Act) (w : World) : Prop := ∃ bs : List Nat, a.defers = bs.map (fun b => ({ target := .collected b, args := #[] } : Deferred)) /\ bs.Nodup /\ ∀ b ∈ bs, n <= b /\ w.heap[b]? = some (.deferred (some []))
theorem a5o (hR : Rel S G g nt s a w) {b : Nat} {x : Option (List Deferred)} (hb : w.heap[b]? = some (.deferred x)) : Other g s.h w b /\ ¬ Perm g s a w b := by
 have ho : ∀ (r : Nat) o, s.h[r]? = some o -> live o = true -> g.σ r ≠ b := by
  rintro r o e hl rfl
  have := hR.hp.ob r o e
  cases o with
  | dead => simp [live] at hl
  | free => simp [live] at hl
  | var cs => obtain ⟨vals, elem, h, _⟩ := this; rw [hb] at h; cases h
  | map ka va l ph => obtain ⟨es, h, _⟩ := this; rw [hb] at h; cases h
  | set n f => obtain ⟨es, h, _⟩ := this; rw [hb] at h; cases h
  | iter n f => obtain ⟨es, r', h, _⟩ := this; rw [hb] at h; cases h
  | loop st pend t ps x y => obtain ⟨L, n, h, _⟩ := this; rw [hb] at h; cases h
 refine ⟨⟨fun cs t fr h => (by rw [hb] at h; cases h), fun es n h => (by rw [hb] at h; cases h), ho⟩, ?_⟩
 rintro ((⟨r, o, h1, h2, h3⟩ | ⟨r, j, cs, es, l, vals, elem, fr, ad, n, cap, h1, h2, h3, h4, h5⟩) | ⟨i, es, l, ad, n, cap, h1, h2, h3⟩)
 ·exact ho r o h1 h2 h3
 ·obtain ⟨c', off, cap', rfl', own, _⟩ := a9S hR.hp h1 h2 (by
   obtain ⟨vals', elem', hb', _⟩ := hR.hp.ob r _ h1
   rw [hb'] at h3
   simp only [Option.some.injEq, Obj.cells.injEq] at h3
   obtain ⟨rfl, rfl, _⟩ := h3
   exact hb') h4
  simp only [Value.slice.injEq, Option.some.injEq] at rfl'
  obtain ⟨rfl, _⟩ := rfl'
  obtain ⟨cs', elem', hx, _⟩ := own.blk
  have h5' : c' = b := h5
  rw [h5', hb] at hx; cases hx
 ·have ht := hR.tm i
  rw [h1, h2] at ht
  cases ht with
  | rv _ _ h =>
   cases h with
   | sc _ _ h => exact absurd rfl (h.a2a _ _)
  | own _ _ c' off cap' own =>
   obtain ⟨cs', elem', hx, _⟩ := own.blk
   have h3' : c' = b := h3
   rw [h3', hb] at hx; cases hx
theorem Dfs.goes {n : Nat} (hR : Rel S G g nt s a w) (hd : Dfs n a w) (hG : Goes S G nt g g' s s' a a' w w') (he : a'.defers = a.defers) : Dfs n a' w' := by
 obtain ⟨bs, h1, h2, h3⟩ := hd
 refine ⟨bs, by rw [he, h1], h2, fun b hb => ?_⟩
 obtain ⟨hn, this⟩ := h3 b hb
 refine ⟨hn, ?_⟩
 rw [hG.keeps.same b (a2A this) (a5o hR this).2]
 exact this
end
end Go.Pm
namespace Go.Pm
section
variable {S : Seat} {G : List Nat} {g g' g'' g1 : Gh} {nt n0 : Nat} {s s' s'' s1 s2 : St} {a a' a'' a1 : Act} {w w' w'' w1 : World} {h h' : List Obj} {base : Nat} {ex ex' : Ex}
theorem b9s {ops : Array Go.Oper} {o' : Go.Oper} (hg : o'.guard = none) (hdf : ∀ c, o'.op ≠ .defer c) (ro : Option Nat) {x : Value} (hrun : (execOp a.eval o').run S.P w = .ok (.value x) w') {next : Act -> World -> Prop} {Q : Exit -> Act -> World -> Prop}
 (hn : next (a.put o'.dst x) w') :
 if Region.wanted o' (yielded ops a.tmps) = true then o'.wpIn (a1W ro) 0 S.P a w next Q else (∀ f, o'.about S.P w a.eval = some f -> (a1W ro).fn f) /\ next (a.put o'.dst undef) w := by
 have hw : Region.wanted o' (yielded ops a.tmps) = true := by unfold Region.wanted; rw [hg]
 rw [if_pos hw]
 refine ⟨fun f _ => b1H ro f, ?_⟩
 rw [a9w, Oper.semAt_eq ro a.eval o' hdf, hrun]
 exact hn
theorem Goes.c5t (hG : Goes S G nt g g' s s' a a' w w') {b : Nat} {ob : Go.Obj} (hb : Perm g s a w b) (hO : Other g' s'.h w' b) : Goes S G nt g g' s s' a a' w (w'.putObj b ob) := by
 have same : ∀ b', b' ≠ b -> (w'.putObj b ob).heap[b']? = w'.heap[b']? := fun b' h => World.putObj_heap_other h
 have hcl : ∀ r j c, a1e g' s'.h (w'.putObj b ob) r j c -> a1e g' s'.h w' r j c := by
  rintro r j c ⟨cs, es, l, vals, elem, fr, ad, n, cap, h1, h2, h3, h4, h5⟩
  rw [same _ (hO.o r _ h1 rfl)] at h3
  exact ⟨cs, es, l, vals, elem, fr, ad, n, cap, h1, h2, h3, h4, h5⟩
 have hR := hG.rel
 refine ⟨hG.le, ⟨hR.hp.poke hO, hR.sz, fun i => ?_, hR.exT, fun i c r j d e => hR.exTH i c r j d (hcl _ _ _ e), hR.clT⟩, ⟨by simpa using hG.keeps.size, fun c hc hn => ?_, hG.keeps.out, hG.keeps.os, hG.keeps.tape⟩, fun c hc hp => hG.back c hc ?_, hG.im, hG.mm⟩
 ·have ht := hR.tm i
  generalize get s'.t i = v at ht
  generalize a'.tmps.getD i undef = x at ht
  cases ht with
  | rv _ _ h => exact .rv _ _ h
  | own es l c off cap ho =>
   refine .own _ _ _ _ _ (ho.mono (.refl g') (same c fun h => ?_) (fun _ => rfl))
   obtain ⟨cs, elem, hb, _⟩ := ho.blk
   rw [h] at hb
   exact hO.c _ _ _ hb
 ·rw [same c (fun h => hn (h ▸ hb))]; exact hG.keeps.same c hc hn
 ·rcases hp with (h | ⟨r, j, h⟩) | h
  ·exact .inl (.inl h)
  ·exact .inl (.inr ⟨r, j, hcl _ _ _ h⟩)
  ·exact .inr h
theorem b2q : ∀ (vs pre z : List C), z.length = vs.length -> a1H (pre ++ z) pre.length vs = pre ++ vs
 | [], pre, z, h => by
  have : z = [] := List.length_eq_zero_iff.1 h
  subst this; rfl
 | v :: vs, pre, [], h => by simp at h
 | v :: vs, pre, x :: z, h => by
  have hs : (pre ++ x :: z).set pre.length v = (pre ++ [v]) ++ z := by
   rw [List.set_append_right _ _ (Nat.le_refl _)]; simp
  have ih := b2q vs (pre ++ [v]) z (by simpa using h)
  simp only [List.length_append, List.length_cons, List.length_nil, Nat.zero_add] at ih
  simp only [a1H, hs, ih]
  simp
theorem a9u : ∀ (cs pre : List C), a0R (pre ++ cs) pre.length cs.length = some cs
 | [], pre => rfl
 | c :: cs, pre => by
  have ih := a9u cs (pre ++ [c])
  simp only [List.length_append, List.length_cons, List.length_nil, Nat.zero_add, List.append_assoc, List.singleton_append] at ih
  simp only [List.length_cons, a0R, List.getElem?_append_right (Nat.le_refl _), Nat.sub_self, List.getElem?_cons_zero, ih, Option.map_some]
theorem b7e (ks : List Int) : (keyC ks).map a0r = keyC ks := by simp [keyC, a0r]
theorem b0L : ∀ ks : List Int, intsOf (keyC ks) = some ks
 | [] => rfl
 | k :: ks => by
  have := b0L ks
  simp only [keyC] at this
  simp only [keyC, List.map_cons, intsOf, this, Option.map_some]
theorem c1l {Γ : Env} {K : a1n} {t : List (Nat × V)} {H : List Obj} {bx ks n : Nat} {z : List C} {kl : List Int} (hne : bx ≠ ks) (hz : z.length = n) (hp : C.a0v z = true) (hn : 0 < n) (hk : kl.length = n) (hget : get t ks = .agg (keyC kl)) :
 steps Γ K H.length [{ dst := some bx, op := .alloc 0 z }, { op := .store n (.t bx) (.t ks) }] ⟨t, H ++ [.free]⟩ = some ⟨(bx, .sc (.ptr H.length 0)) :: t, H ++ [.var (keyC kl)]⟩ := by
 have hf : a1z (H ++ [Obj.free]) H.length = true := by simp [a1z]
 have hkl : (keyC kl).length = n := by simp [keyC, hk]
 have hset := b2q (keyC kl) [] z (by rw [hkl, hz])
 simp only [List.nil_append, List.length_nil] at hset
 simp only [steps, step, wanted, perform, eff, Nat.add_zero, hf, hp, and_self, if_true, Option.map_some, put1, drop, Op.takes, List.foldl_nil, a0I, List.foldl_cons, rd, get, if_neg hne, hget, V.a0r, a0r]
 simp [V.cells, hkl, hz, hn, hset, Rand.takes]
theorem c1m {Γ : Env} {K : a1n} {t : List (Nat × V)} {H : List Obj} {q bx u kv dst n : Nat} {kl : List Int} {f : List Int -> Bool} (h1 : u ≠ bx) (h2 : kv ≠ u) (hk : kl.length = n) (hd : get t dst = .sc (.map q)) (hb : get t bx = .sc (.ptr H.length 0)) (hq : H[q]? = some (.set n f)) :
 steps Γ K H.length [{ dst := some u, op := .mv (.t dst) }, { dst := some kv, op := .load (some n) (.t bx) }, { op := .sadd n (.t u) (.t kv) }] ⟨t, H ++ [.var (keyC kl)]⟩ = some ⟨(kv, .agg (keyC kl)) :: (u, .sc (.map q)) :: t, (H.set q (.set n fun x => f x || decide (x = kl))) ++ [.var (keyC kl)]⟩ := by
 have hql : q < H.length := (List.getElem?_eq_some_iff.1 hq).1
 have hkl : (keyC kl).length = n := by simp [keyC, hk]
 have hw := a9u (keyC kl) []
 simp only [List.nil_append, List.length_nil, hkl] at hw
 have hg1 : (H ++ [Obj.var (keyC kl)])[H.length]? = some (.var (keyC kl)) := by simp
 have hg2 : (H ++ [Obj.var (keyC kl)])[q]? = some (.set n f) := by rw [List.getElem?_append_left hql, hq]
 have hi := b0L kl
 simp only [steps, step, wanted, perform, eff, rd, hd, hb, get, if_neg h1, V.a0r, a0r, Option.map_some, put1, drop, Op.takes, Rand.takes, List.foldl_nil, a0I, List.foldl_cons, hg1, a1t, hw, b7e, if_true, if_neg h2]
 simp [a6a, hkl, hi, hg2, List.set_append_left _ _ hql]
theorem b1S (hR : Rel S G g nt s a w) {b r : Nat} {since last : Nat} {seen : Array Nat} (hb : w.heap[b]? = some (.mapIter (some r) since seen last)) (ho : ∀ (r : Nat) o, s.h[r]? = some o -> live o = true -> g.σ r ≠ b) : Other g s.h w b /\ ¬ Perm g s a w b := by
 refine ⟨⟨fun cs t fr h => (by rw [hb] at h; cases h), fun es n h => (by rw [hb] at h; cases h), ho⟩, ?_⟩
 rintro ((⟨r, o, h1, h2, h3⟩ | ⟨r, j, cs, es, l, vals, elem, fr, ad, n, cap, h1, h2, h3, h4, h5⟩) | ⟨i, es, l, ad, n, cap, h1, h2, h3⟩)
 ·exact ho r o h1 h2 h3
 ·obtain ⟨c', off, cap', rfl', own, _⟩ := a9S hR.hp h1 h2 (by
   obtain ⟨vals', elem', hb', _⟩ := hR.hp.ob r _ h1
   rw [hb'] at h3
   simp only [Option.some.injEq, Obj.cells.injEq] at h3
   obtain ⟨rfl, rfl, _⟩ := h3
   exact hb') h4
  simp only [Value.slice.injEq, Option.some.injEq] at rfl'
  obtain ⟨rfl, _⟩ := rfl'
  obtain ⟨cs', elem', hx, _⟩ := own.blk
  have h5' : c' = b := h5
  rw [h5', hb] at hx; cases hx
 ·have ht := hR.tm i
  rw [h1, h2] at ht
  cases ht with
  | rv _ _ h =>
   cases h with
   | sc _ _ h => exact absurd rfl (h.a2a _ _)
  | own _ _ c' off cap' own =>
   obtain ⟨cs', elem', hx, _⟩ := own.blk
   have h3' : c' = b := h3
   rw [h3', hb] at hx; cases hx
theorem c0X (kl : List Int) : RV S g (.agg (keyC kl)) (a4O kl) := by
 refine .agg _ _ (by simp [keyC]) fun j c v hc hv => ?_
 simp only [keyC, List.getElem?_map, Option.map_eq_some_iff, List.getElem?_toArray] at hc hv
 obtain ⟨n, hn, rfl⟩ := hc
 obtain ⟨n', hn', rfl⟩ := hv
 rw [hn] at hn'
 cases hn'
 exact .int _ _
structure UI (S : Seat) (G : List Nat) (nt : Nat) (g : Gh) (s : St) (a : Act) (w : World) (p q n r : Nat) (K : List Nat) (es : Array MapEntry) (f0 : List Int -> Bool) (seen : Array Nat) (last : Nat) (fi : List Int -> Bool) (g' : Gh) (a' : Act) (w' : World) : Prop where
 go : Goes S G nt g g' s ⟨restrict K s.t, (s.h.set p .dead).set q (.set n fi)⟩ a a' w w'
 df : a'.defers = a.defers
 hb : w'.heap[g.σ p]? = some (.mapIter (some r) es.size seen last)
 hl : es.size <= last
 fs : ∀ ks, fi ks = true <-> (f0 ks = true \/ ∃ e ∈ es.toList, seen.contains e.born = true /\ e.key = a4O ks)
theorem a6c {ops : Array Go.Oper} {i : Nat} {rest : List Nat} {o' : Go.Oper} (ho : ops[i]? = some o') (hg : o'.guard = none) (hdf : ∀ c, o'.op ≠ .defer c) (ro : Option Nat) {x : Value} (hrun : (execOp a.eval o').run S.P w = .ok (.value x) w') {Q : Exit -> Act -> World -> Prop}
 (hn : wpOpsIn (a1W ro) 0 S.P ops Q rest (a.put o'.dst x) w') : wpOpsIn (a1W ro) 0 S.P ops Q (i :: rest) a w := by
 rw [wpOpsIn]
 simp only [ho]
 exact b9s hg hdf ro hrun hn
theorem a7P {d i : Nat} {x : Value} (hd : d < a.tmps.size) : (a.put (some d) x).eval (.tmp i) = if d = i then x else a.eval (.tmp i) := by
 have := a6Q a (some d) x i (fun e h => by cases h; exact hd)
 simpa [Act.eval] using this
theorem b0S {it dst n : Nat} {keep : List Nat} {o nx r3 r4 r5 nxt m pr ks bx u kv : Nat} {z : List C} {o0 o1 a0 a1 a2 a3 b0 b1 b2 : Go.Oper} (hM : UnionM S G nt it dst n keep nxt m pr ks bx u kv z o0 o1 a0 a1 a2 a3 b0 b1 b2)
 (hR : Rel S G g nt s a w) {p q r : Nat} {f f0 : List Int -> Bool} {es : Array MapEntry} (hit : get s.t it = .sc (.ptr p 0)) (hds : get s.t dst = .sc (.map q)) (hp : s.h[p]? = some (.iter n f)) (hq : s.h[q]? = some (.set n f0))
 (hN : g.N r = some es) (hborn : ∀ (i : Nat) m, es[i]? = some m -> m.born = i) (hE : a7s n f es.toList)
 {seen : Array Nat} {last : Nat} {fi : List Int -> Bool} (hI : UI S G nt g s a w p q n r (it :: dst :: keep) es f0 seen last fi g' a' w') (ro : Option Nat) {R : Act -> World -> Prop} {Q : Exit -> Act -> World -> Prop}
 (hdone : ∀ a'' w'' g'', Goes S G nt g g'' s { t := restrict keep s.t, h := (s.h.set p .dead).set q (.set n fun x => f0 x || f x) } a a'' w w'' -> a''.defers = a.defers -> Q (.exit o) a'' w'')
 (hnext : ∀ e ∈ (leftOf es seen).toList, ∀ last' fi' g'' a'' w'', UI S G nt g s a w p q n r (it :: dst :: keep) es f0 (seen.push e.born) last' fi' g'' a'' w'' -> R a'' w'') :
 (Code.seq (.region r3 #[o0, o1] false) (.seq (.cond (.tmp m) .skip (.exit o)) (.block nx (.seq (.region r4 #[a0, a1, a2, a3] false) (.region r5 #[b0, b1, b2] false))))).wpIn (a1W ro) 0 S.P (Exit.then R Q) a' w' := by
 obtain ⟨p0, d0, gd0⟩ := hM.h0
 obtain ⟨p1, d1, gd1⟩ := hM.h1
 obtain ⟨p2, d2, gd2⟩ := hM.h2
 obtain ⟨p3, d3, gd3⟩ := hM.h3
 obtain ⟨l0, l1, l2, l3⟩ := hM.lt
 have nd := hM.nd
 simp only [List.nodup_cons, List.mem_cons, not_or, List.not_mem_nil, not_false_eq_true, List.nodup_nil, and_true] at nd
 obtain ⟨⟨i1, i2, i3, i4, i5, i6, i7, i8⟩, ⟨j1, j2, j3, j4, j5, j6, j7⟩, ⟨n1, n2, n3, n4, n5, n6⟩, ⟨m1, m2, m3, m4, m5⟩, ⟨q1, q2, q3, q4⟩, ⟨k1, k2, k3⟩, ⟨x1, x2⟩, y1⟩ := nd
 have hpq : p ≠ q := by rintro rfl; rw [hp] at hq; cases hq
 have hA := hR.hp.lv p _ hp rfl
 have hAq := hR.hp.lv q _ hq rfl
 have hσ : g.σ q ≠ g.σ p := fun e => hpq (hR.hp.inj q p _ _ hq hp rfl rfl e).symm
 have hsz := hI.go.rel.sz
 have hplt : p < s.h.length := (List.getElem?_eq_some_iff.1 hp).1
 have hqlt : q < s.h.length := (List.getElem?_eq_some_iff.1 hq).1
 have hitv : a'.eval (.tmp it) = .pointer (some ⟨g.σ p, 0, none⟩) := by
  have h1 := a0M hI.go.rel (MR.t it : MR S G (.t it) (.tmp it))
  have h2 : rd S.Γ (restrict (it :: dst :: keep) s.t) (.t it) = .sc (.ptr p 0) := by simp [rd, a2s, hit, V.a0r, a0r]
  rw [h2] at h1
  obtain ⟨_, hx⟩ := h1.a3J
  rw [hx, hI.go.le.eq p hA]
 have hmap : w'.heap[r]? = some (.map es es.size) := by
  obtain ⟨k, hk, rfl⟩ := hI.go.rel.hp.mm r es (hI.go.le.mm _ _ hN)
  exact hk
 have hold : ∀ x ∈ es.toList, x.born < es.size := fun x hx => by
  obtain ⟨i, hi⟩ := List.getElem?_of_mem hx
  rw [Array.getElem?_toList] at hi
  rw [hborn i x hi]; exact (Array.getElem?_eq_some_iff.1 hi).1
 have hnd : (es.toList.map (·.born)).Nodup := by
  have : es.toList.map (·.born) = List.range es.size := by
   apply List.ext_getElem?
   intro i
   rw [List.getElem?_map, Array.getElem?_toList]
   by_cases hi : i < es.size
   ·rw [Array.getElem?_eq_getElem hi, Option.map_some, hborn i _ (Array.getElem?_eq_getElem hi), List.getElem?_range hi]
   ·rw [Array.getElem?_eq_none (by omega), List.getElem?_eq_none (by simp; omega)]; rfl
  rw [this]; exact List.nodup_range
 refine wpIn_seq (wpIn_region ?_)
 show wpOpsIn _ 0 S.P #[o0, o1] _ [0, 1] a' w'
 rcases run_next_at (P := S.P) w' o0.type (g.σ p) r es.size last seen es es.size hI.hb hmap hold hI.hl with ⟨h0, hrun⟩ | ⟨e, he, w1, hal, hrun⟩
 ·refine a6c (x := .tuple #[.bool false]) (w' := w') rfl gd0 (by rw [p0]; simp) ro (by simp [execOp, p0, hitv, hrun]) ?_
  rw [d0]
  have ev1 : (a'.put (some nxt) (.tuple #[.bool false])).eval (.tmp nxt) = .tuple #[.bool false] := by rw [a7P (by omega)]; simp
  refine a6c (x := .bool false) (w' := w') rfl gd1 (by rw [p1]; simp) ro (by simp [execOp, p1, ev1, Instr.extract]) ?_
  rw [d1]
  have g1 := hI.go.trans (Goes.put hI.go.rel (dst := some nxt) (v := .sc .top) (x := .tuple #[.bool false]) (.top _) (fun d h => by cases h; exact l0))
  have g2 := g1.trans (Goes.put g1.rel (dst := some m) (v := .sc .top) (x := .bool false) (.top _) (fun d h => by cases h; exact l1))
  show (Code.seq _ _).wpIn _ _ _ _ _ _
  refine wpIn_seq (wpIn_cond_false (by rw [a7P (by rw [size_put]; omega)]; simp) (wpIn_exit ?_))
  show Q (.exit o) _ _
  have g3 := g2.trans (Goes.restrict g2.rel keep)
  refine hdone _ _ g' ?_ (by rw [a3Y, a3Y]; exact hI.df)
  have ht : restrict keep (put1 (some m) (.sc .top) (put1 (some nxt) (.sc .top) (restrict (it :: dst :: keep) s.t))) = restrict keep s.t := by
   unfold restrict
   refine List.map_congr_left fun i hi => ?_
   have hni := hM.kp i hi
   simp only [List.mem_cons, not_or] at hni
   have : get (put1 (some m) (V.sc .top) (put1 (some nxt) (.sc .top) (restrict (it :: dst :: keep) s.t))) i = get s.t i := by
    simp only [put1, get]
    rw [if_neg (fun h => hni.2.1 h.symm), if_neg (fun h => hni.1 h.symm), a2s, if_pos (by simp [hi])]
   exact congrArg (Prod.mk i) this
  have hf : fi = fun x => f0 x || f x := by
   funext x
   rw [Bool.eq_iff_iff, hI.fs x, Bool.or_eq_true, hE.2 x]
   constructor
   ·rintro (h | ⟨e, he, _, hk⟩)
    ·exact .inl h
    ·exact .inr ⟨e, he, hk⟩
   ·rintro (h | ⟨e, he, hk⟩)
    ·exact .inl h
    ·exact .inr ⟨e, he, all_seen es seen h0 e he, hk⟩
  rw [ht, hf] at g3
  exact g3
 ·have hH : ∀ (r' : Nat) o', ((s.h.set p .dead).set q (.set n fi))[r']? = some o' -> live o' = true -> g'.σ r' ≠ g.σ p := by
   intro r' o' e' hl
   rcases a3H e' with ⟨rfl, rfl, _⟩ | ⟨hr1, e'⟩
   ·rw [hI.go.le.eq r' hAq]; exact hσ
   ·rcases a3H e' with ⟨rfl, rfl, _⟩ | ⟨hr2, e'⟩
    ·simp [live] at hl
    ·rw [hI.go.le.eq r' (hR.hp.lv r' o' e' hl)]; exact fun h => hr2 (hR.hp.inj r' p _ _ e' hp hl rfl h)
  obtain ⟨H, hHd⟩ : ∃ H, (s.h.set p .dead).set q (.set n fi) = H := ⟨_, rfl⟩
  have hlenH : H.length = s.h.length := by rw [← hHd]; simp
  have hHq : H[q]? = some (.set n fi) := by rw [← hHd, List.getElem?_set_self (by simpa using hqlt)]
  have hgo := hI.go
  rw [hHd] at hgo hH
  have G1 : Goes S G nt g g' s ⟨restrict (it :: dst :: keep) s.t, H⟩ a a' w w1 := by
   rcases hal with rfl | rfl
   ·exact hgo
   ·exact hgo.trans (Goes.grow hgo.rel (Grows.drew g' w'))
  have hb1 : w1.heap[g.σ p]? = some (.mapIter (some r) es.size seen last) := by rcases hal with rfl | rfl <;> exact hI.hb
  have hperm : Perm g s a w (g.σ p) := .inl (.inl ⟨p, _, hp, rfl, rfl⟩)
  have hO1 := (b1S G1.rel hb1 hH).1
  obtain ⟨w2, hw2⟩ : ∃ w2, w1.putObj (g.σ p) (.mapIter (some r) es.size (seen.push e.born) es.size) = w2 := ⟨_, rfl⟩
  have hrun2 : (Instr.next (.pointer (some ⟨g.σ p, 0, none⟩)) false o0.type).run S.P w' = .ok (.tuple #[.bool true, e.key, e.val]) w2 := by rw [← hw2]; exact hrun
  have G2 : Goes S G nt g g' s ⟨restrict (it :: dst :: keep) s.t, H⟩ a a' w w2 := by rw [← hw2]; exact G1.c5t hperm hO1
  have hb2 : w2.heap[g.σ p]? = some (.mapIter (some r) es.size (seen.push e.born) es.size) := by rw [← hw2]; exact World.putObj_heap_same (a2A hb1)
  have hmap2 : w2.heap[r]? = some (.map es es.size) := by
   obtain ⟨k, hk, rfl⟩ := G2.rel.hp.mm r es (G2.le.mm _ _ hN)
   exact hk
  obtain ⟨hme, hse⟩ := mem_left he
  have hent := run_entry_at (P := S.P) w2 (g.σ p) r es.size seen es es.size e hb2 hmap2 hme hnd
  obtain ⟨kl, hkl, hkey, hval⟩ := hE.1 e hme
  refine a6c (x := .tuple #[.bool true, e.key, e.val]) (w' := w2) rfl gd0 (by rw [p0]; simp) ro (by simp [execOp, p0, hitv, hrun2]) ?_
  rw [d0]
  have ev1 : (a'.put (some nxt) (.tuple #[.bool true, e.key, e.val])).eval (.tmp nxt) = .tuple #[.bool true, e.key, e.val] := by rw [a7P (by omega)]; simp
  refine a6c (x := .bool true) (w' := w2) rfl gd1 (by rw [p1]; simp) ro (by simp [execOp, p1, ev1, Instr.extract]) ?_
  rw [d1]
  have g1 := G2.trans (Goes.put G2.rel (dst := some nxt) (v := .sc .top) (x := .tuple #[.bool true, e.key, e.val]) (.top _) (fun d h => by cases h; exact l0))
  have g2 := g1.trans (Goes.put g1.rel (dst := some m) (v := .sc .top) (x := .bool true) (.top _) (fun d h => by cases h; exact l1))
  obtain ⟨A2, hA2⟩ : ∃ A2, (a'.put (some nxt) (.tuple #[.bool true, e.key, e.val])).put (some m) (.bool true) = A2 := ⟨_, rfl⟩
  have hit2 : A2.eval (.tmp it) = .pointer (some ⟨g.σ p, 0, none⟩) := by rw [← hA2, a7P (by rw [size_put]; omega), if_neg (fun h => i3 h.symm), a7P (by omega), if_neg (fun h => i2 h.symm), hitv]
  have hm2 : A2.eval (.tmp m) = .bool true := by rw [← hA2, a7P (by rw [size_put]; omega)]; simp
  have hdf2 : A2.defers = a'.defers := by rw [← hA2, a3Y, a3Y]
  rw [hA2] at g2 ⊢
  have hs2 : A2.tmps.size = nt := g2.rel.sz
  show (Code.seq _ _).wpIn _ _ _ _ _ _
  refine wpIn_seq (wpIn_cond_true hm2 (wpIn_skip ?_))
  show (Code.block _ _).wpIn _ _ _ _ _ _
  refine wpIn_block (wpIn_seq (wpIn_region ?_))
  show wpOpsIn _ 0 S.P #[a0, a1, a2, a3] _ [0, 1, 2, 3] A2 w2
  refine a6c (x := .tuple #[e.key, e.val]) (w' := w2) rfl gd2 (by rw [p2]; simp) ro (by simp [execOp, p2, hit2, hent]) ?_
  rw [d2]
  have ev3 : (A2.put (some pr) (.tuple #[e.key, e.val])).eval (.tmp pr) = .tuple #[e.key, e.val] := by rw [a7P (by omega)]; simp
  refine a6c (x := e.key) (w' := w2) rfl gd3 (by rw [p3]; simp) ro (by simp [execOp, p3, ev3, Instr.extract]) ?_
  rw [d3]
  have g3 := g2.trans (Goes.put g2.rel (dst := some pr) (v := .sc .top) (x := .tuple #[e.key, e.val]) (.top _) (fun d h => by cases h; exact l2))
  have g4 := g3.trans (Goes.put g3.rel (dst := some ks) (v := .agg (keyC kl)) (x := e.key) (by rw [hkey]; exact c0X kl) (fun d h => by cases h; exact l3))
  obtain ⟨A4, hA4⟩ : ∃ A4, (A2.put (some pr) (.tuple #[e.key, e.val])).put (some ks) e.key = A4 := ⟨_, rfl⟩
  have hdf4 : A4.defers = a'.defers := by rw [← hA4, a3Y, a3Y, hdf2]
  rw [hA4] at g4 ⊢
  obtain ⟨T4, hT4⟩ : ∃ T4, put1 (some ks) (V.agg (keyC kl)) (put1 (some pr) (.sc .top) (put1 (some m) (.sc .top) (put1 (some nxt) (.sc .top) (restrict (it :: dst :: keep) s.t)))) = T4 := ⟨_, rfl⟩
  have hT4k : get T4 ks = .agg (keyC kl) := by rw [← hT4]; simp [put1, get]
  have hT4i : ∀ i, i ∈ it :: dst :: keep -> get T4 i = get s.t i := fun i hi => by
   have hn : i ∉ [nxt, m, pr, ks, bx, u, kv] := by
    rcases List.mem_cons.1 hi with rfl | hi
    ·simp; exact ⟨i2, i3, i4, i5, i6, i7, i8⟩
    ·rcases List.mem_cons.1 hi with rfl | hi
     ·simp; exact ⟨j1, j2, j3, j4, j5, j6, j7⟩
     ·exact hM.kp i hi
   simp only [List.mem_cons, not_or] at hn
   rw [← hT4]
   simp only [put1, get]
   rw [if_neg (fun h => hn.2.2.2.1 h.symm), if_neg (fun h => hn.2.2.1 h.symm), if_neg (fun h => hn.2.1 h.symm), if_neg (fun h => hn.1 h.symm), a2s, if_pos hi]
  have g4' : Goes S G nt g g' s ⟨T4, H⟩ a A4 w w2 := by rw [← hT4]; exact g4
  have hroom : Goes S G nt g' g' ⟨T4, H⟩ ⟨T4, H ++ [.free]⟩ A4 A4 w2 w2 := Goes.room g4'.rel 1
  show wpOpsIn _ 0 S.P #[a0, a1, a2, a3] _ (List.range' 2 [a2, a3].length) A4 w2
  refine a9q (K := fun _ _ _ => none) (fun fk vs h v h' e => by cases e) ro _ _ 2 hM.h4 (fun j => by
   rcases j with _ | _ | j
   ·rfl
   ·rfl
   ·rw [List.getElem?_eq_none (by simp), Array.getElem?_eq_none (by simp; omega)]) _ _ A4 w2 g' (c1l (n := n) (fun h => k1 h.symm) hM.hz hM.hp hM.hn hkl hT4k) hroom.rel (fun a5 w5 g5 hg5 hdf5 => ?_)
  show (Code.region _ _ _).wpIn _ _ _ _ _ _
  refine wpIn_region ?_
  show wpOpsIn _ 0 S.P #[b0, b1, b2] _ (List.range' 0 [b0, b1, b2].length) a5 w5
  refine a9q (K := fun _ _ _ => none) (fun fk vs h v h' e => by cases e) ro _ _ 0 hM.h5 (fun j => by simp) _ _ a5 w5 g5 (c1m (n := n) (u := u) (kv := kv) (q := q) (dst := dst) (f := fi) (fun h => x1 h.symm) (fun h => y1 h.symm) hkl (by
   simp only [get]; rw [if_neg (fun h => j5 h.symm), hT4i dst (by simp), hds]) (by simp [get]) hHq) hg5.rel (fun a6 w6 g6 hg6 hdf6 => ?_)
  show R a6 w6
  obtain ⟨H', hH'⟩ : ∃ H', H.set q (.set n fun x => fi x || decide (x = kl)) = H' := ⟨_, rfl⟩
  obtain ⟨T6, hT6⟩ : ∃ T6, (kv, V.agg (keyC kl)) :: (u, V.sc (.map q)) :: (bx, V.sc (.ptr H.length 0)) :: T4 = T6 := ⟨_, rfl⟩
  rw [hH', hT6] at hg6
  have hlen' : H'.length = H.length := by rw [← hH']; simp
  have hsteps := (hroom.trans hg5).trans hg6
  have Gt := g4'.trans hsteps
  have hT6i : ∀ i, i ∈ it :: dst :: keep -> get T6 i = get s.t i := fun i hi => by
   have hn : i ∉ [nxt, m, pr, ks, bx, u, kv] := by
    rcases List.mem_cons.1 hi with rfl | hi
    ·simp; exact ⟨i2, i3, i4, i5, i6, i7, i8⟩
    ·rcases List.mem_cons.1 hi with rfl | hi
     ·simp; exact ⟨j1, j2, j3, j4, j5, j6, j7⟩
     ·exact hM.kp i hi
   simp only [List.mem_cons, not_or] at hn
   rw [← hT6]
   simp only [get]
   rw [if_neg (fun h => hn.2.2.2.2.2.2.1 h.symm), if_neg (fun h => hn.2.2.2.2.2.1 h.symm), if_neg (fun h => hn.2.2.2.2.1 h.symm), hT4i i hi]
  have happ : ∀ (r' : Nat) o', H'[r']? = some o' -> (H' ++ [Obj.var (keyC kl)])[r']? = some o' /\ r' < H.length := fun r' o' e' =>
   ⟨by rw [List.getElem?_append_left (List.getElem?_eq_some_iff.1 e').1]; exact e', by rw [← hlen']; exact (List.getElem?_eq_some_iff.1 e').1⟩
  have hd : Dies (H' ++ [Obj.var (keyC kl)]) H' (fun x => x = H.length) (fun x => g6.A x /\ x < H.length) g6 := by
   refine ⟨fun r' o' e' hl => ⟨(happ r' o' e').1, fun h => ?_⟩, fun r' hA' => ?_, fun r' o' e' hl => ⟨Gt.rel.hp.lv r' o' (happ r' o' e').1 hl, (happ r' o' e').2⟩, fun r' h => h.1, fun r' o' e' hl => ⟨H.length, ?_, fun r2 h1 h2 => ⟨h2, h1⟩⟩⟩
   ·have h' : r' = H.length := h
    have := (happ r' o' e').2
    omega
   ·obtain ⟨o', ho', hf⟩ := Gt.rel.hp.as r' hA'.1
    have hlt : r' < H'.length := by rw [hlen']; exact hA'.2
    have h2 : (H' ++ [Obj.var (keyC kl)])[r']? = some o' := ho'
    rw [List.getElem?_append_left hlt] at h2
    exact ⟨o', h2, hf⟩
   ·rw [← hH'] at e'
    rcases a3H e' with ⟨rfl, rfl, _⟩ | ⟨hr1, e'⟩
    ·trivial
    ·exact hgo.rel.hp.und e'
  have ht : ∀ i, RT S (g6.kill (H' ++ [Obj.var (keyC kl)]) w6 (fun x => x = H.length) (fun x => g6.A x /\ x < H.length)) w6 (get (restrict (it :: dst :: keep) s.t) i) (a6.tmps.getD i undef) := fun i => by
   rw [a2s]
   by_cases hi : i ∈ it :: dst :: keep
   ·rw [if_pos hi, ← hT6i i hi]
    refine b5W (n := H.length) Gt.rel (fun r' h1 h2 => ⟨h2, h1⟩) ?_
    show (get T6 i).under _ = true
    rw [hT6i i hi]
    have h1 : RT S g' w' (get (restrict (it :: dst :: keep) s.t) i) (a'.tmps.getD i undef) := hgo.rel.tm i
    rw [a2s, if_pos hi] at h1
    generalize get s.t i = vv at h1
    generalize a'.tmps.getD i undef = xx at h1
    cases h1 with
    | rv _ _ h => exact h.under fun r' hA' => A_lt hgo.rel.hp hA'
    | own => rfl
   ·rw [if_neg hi]; exact .rv _ _ (.top _)
  have hct : ∀ i b, a0S (restrict (it :: dst :: keep) s.t) a6.tmps i b -> a0S T6 a6.tmps i b := by
   rintro i b ⟨es', l, ad, n', cap, h1, h2, h3⟩
   rw [a2s] at h1
   split at h1
   ·rename_i hi
    exact ⟨es', l, ad, n', cap, by rw [hT6i i hi]; exact h1, h2, h3⟩
   ·cases h1
  have Gk := Goes.kills Gt hd (fun r' hA' => ⟨Gt.le.as r' hA', by rw [hlenH]; exact A_lt hR.hp hA'⟩) ht hct
  have hHH : (s.h.set p .dead).set q (.set n fun x => fi x || decide (x = kl)) = H' := by rw [← hH', ← hHd, List.set_set]
  rw [← hHH] at Gk
  refine hnext e he es.size (fun x => fi x || decide (x = kl)) _ a6 w6 ⟨Gk, ?_, ?_, Nat.le_refl _, ?_⟩
  ·rw [hdf6, hdf5, hdf4]; exact hI.df
  ·rw [hsteps.keeps.same _ (a2A hb2) (b1S g4'.rel hb2 hH).2]; exact hb2
  ·intro ks'
   rw [Bool.or_eq_true, hI.fs ks', decide_eq_true_eq]
   constructor
   ·rintro ((h | ⟨e', he', hs', hk'⟩) | rfl)
    ·exact .inl h
    ·exact .inr ⟨e', he', by rw [contains_push, hs', Bool.true_or], hk'⟩
    ·exact .inr ⟨e, hme, by rw [contains_push]; simp, hkey⟩
   ·rintro (h | ⟨e', he', hs', hk'⟩)
    ·exact .inl (.inl h)
    ·rw [contains_push, Bool.or_eq_true] at hs'
     rcases hs' with hs' | hs'
     ·exact .inl (.inr ⟨e', he', hs', hk'⟩)
     ·have := born_inj hnd he' hme (by simpa using hs')
      subst this
      rw [hkey] at hk'
      exact .inr (b1X hk').symm
theorem b9X {it dst n : Nat} {keep : List Nat} {o nx r3 r4 r5 nxt m pr ks bx u kv : Nat} {z : List C} {o0 o1 a0 a1 a2 a3 b0 b1 b2 : Go.Oper} (hM : UnionM S G nt it dst n keep nxt m pr ks bx u kv z o0 o1 a0 a1 a2 a3 b0 b1 b2)
 (hR : Rel S G g nt s a w) {X : a3Z} {K : a1n} {ex : Ex} (e : a0U S.Γ X K (.union keep it dst n) s = some (ex, s')) (ro : Option Nat) {Q : Exit -> Act -> World -> Prop}
 (hQ : ex = .norm -> ∀ a' w' g', Goes S G nt g g' s s' a a' w w' -> a'.defers = a.defers -> Q .normal a' w') :
 (Code.block o (.loop (.seq (.region r3 #[o0, o1] false) (.seq (.cond (.tmp m) .skip (.exit o)) (.block nx (.seq (.region r4 #[a0, a1, a2, a3] false) (.region r5 #[b0, b1, b2] false))))))).wpIn (a1W ro) 0 S.P Q a w := by
 simp only [a0U] at e
 split at e
 ·rename_i p q hit hds
  split at e
  ·rename_i n1 f n2 f0 hp hq
   split at e
   ·rename_i hn
    obtain ⟨rfl, rfl⟩ := hn
    simp only [Option.some.injEq, Prod.mk.injEq] at e
    obtain ⟨rfl, rfl⟩ := e
    obtain ⟨es, r, hb, hN, hborn, hE⟩ := hR.hp.ob p _ hp
    have hqlt : q < s.h.length := (List.getElem?_eq_some_iff.1 hq).1
    have hpq : p ≠ q := by rintro rfl; rw [hp] at hq; cases hq
    have key : ∀ (k : Nat) (seen : Array Nat) (last : Nat) (fi : List Int -> Bool) (g' : Gh) (a' : Act) (w' : World), (leftOf es seen).size <= k -> UI S G nt g s a w p q n2 r (it :: dst :: keep) es f0 seen last fi g' a' w' →
     Code.roundsIn (a1W ro) 0 S.P (.seq (.region r3 #[o0, o1] false) (.seq (.cond (.tmp m) .skip (.exit o)) (.block nx (.seq (.region r4 #[a0, a1, a2, a3] false) (.region r5 #[b0, b1, b2] false))))) (Exit.inBlock o Q) (k + 1) a' w' := by
     intro k
     induction k with
     | zero =>
      intro seen last fi g' a' w' hk hI
      rw [roundsIn_succ]
      refine b0S hM hR hit hds hp hq hN hborn hE hI ro (fun a'' w'' g'' hG hd => ?_) (fun e he => ?_)
      ·show (if o = o then _ else _)
       rw [if_pos rfl]; exact hQ rfl a'' w'' g'' hG hd
      ·have h0 : (leftOf es seen).toList = [] := by
        have : (leftOf es seen).size = 0 := by omega
        exact List.length_eq_zero_iff.1 (by simpa using this)
       rw [h0] at he; cases he
     | succ k ih =>
      intro seen last fi g' a' w' hk hI
      rw [roundsIn_succ]
      refine b0S hM hR hit hds hp hq hN hborn hE hI ro (fun a'' w'' g'' hG hd => ?_) (fun e he last' fi' g'' a'' w'' hI' => ?_)
      ·show (if o = o then _ else _)
       rw [if_pos rfl]; exact hQ rfl a'' w'' g'' hG hd
      ·have := left_shrinks es seen e he
       exact ih _ _ _ _ _ _ (by omega) hI'
    have G1 := Goes.die hR hp
    have G2 := G1.trans (Goes.restrict G1.rel (it :: dst :: keep))
    have hset : (s.h.set p .dead).set q (.set n2 f0) = s.h.set p .dead := set_self (show (s.h.set p .dead)[q]? = some (.set n2 f0) by rw [a5p (fun h => hpq h.symm)]; exact hq)
    rw [← hset] at G2
    exact wpIn_block (wpIn_loop_rounds _ (key (leftOf es #[]).size #[] es.size f0 _ a w (Nat.le_refl _) ⟨G2, rfl, hb, Nat.le_refl _, fun ks' => by simp⟩))
   ·cases e
  ·cases e
 ·cases e
end
end Go.Pm
namespace Go.Pm
def b4k : Ex -> Exit
 | .norm => .normal
 | .exit id => .exit id
 | .ret => .ret
def Post (S : Seat) (G : List Nat) (nt n0 : Nat) (g : Gh) (s s' : St) (a : Act) (w : World) (ex : Ex) (e : Exit) (a' : Act) (w' : World) : Prop :=
 e = b4k ex /\ ∃ g', Goes S G nt g g' s s' a a' w w' /\ Dfs n0 a' w'
def SimX (S : Seat) (G : List Nat) (X : a3Z) : Prop :=
 ∀ r nt c c', MC S G nt r c c' -> ∀ s ex s', X c s = some (ex, s') -> ∀ ro : Option Nat, ro.isSome = r -> ∀ g a w n0, Rel S G g nt s a w -> Dfs n0 a w -> n0 <= w.heap.size →
  c'.wpIn (a1W ro) 0 S.P (Post S G nt n0 g s s' a w ex) a w
def SimL (S : Seat) (G : List Nat) (X : a3Z) (n : Nat) : Prop :=
 ∀ r nt keep c x, MC S G nt r c x -> ∀ s ex s', X (.loop keep c) s = some (ex, s') -> ∀ ro : Option Nat, ro.isSome = r -> ∀ g a w n0, Rel S G g nt s a w -> Dfs n0 a w -> n0 <= w.heap.size →
  ∀ Q : Exit -> Act -> World -> Prop, (∀ e a' w', Post S G nt n0 g s s' a w ex e a' w' -> Q e a' w') -> Code.roundsIn (a1W ro) 0 S.P x Q n a w
section
variable {S : Seat} {G : List Nat} {g g' g'' g1 : Gh} {nt n0 : Nat} {s s' s'' s1 s2 : St} {a a' a'' a1 : Act} {w w' w'' w1 : World} {h h' : List Obj} {base : Nat} {ex ex' : Ex}
theorem Post.trans (hG : Goes S G nt g g1 s s1 a a1 w w1) {e : Exit} (hp : Post S G nt n0 g1 s1 s' a1 w1 ex e a' w') : Post S G nt n0 g s s' a w ex e a' w' := by
 obtain ⟨h1, g', h2, h3⟩ := hp
 exact ⟨h1, g', hG.trans h2, h3⟩
theorem b4D {X : a3Z} {K : a1n} (hX : SimX S G X) {n : Nat} (hL : SimL S G X n) : SimL S G (a0U S.Γ X K) (n + 1) := by
 intro r nt keep c x hm s ex s' e ro hro g a w n0 hR hd hn Q hQ
 rw [roundsIn_succ]
 simp only [a0U] at e
 have fin : ∀ s1 ex1, X c s = some (ex1, s1) -> ex1 ≠ .norm -> ex1 = ex -> s1 = s' -> x.wpIn (a1W ro) 0 S.P (Exit.then (Code.roundsIn (a1W ro) 0 S.P x Q n) Q) a w := by
  rintro s1 ex1 hx hne rfl rfl
  refine wpIn_mono (hX r nt c x hm s ex1 s1 hx ro hro g a w n0 hR hd hn) fun e a' w' hp => ?_
  have he := hp.1
  cases ex1 with
  | norm => exact absurd rfl hne
  | exit id => rw [he] at hp ⊢; exact hQ _ _ _ hp
  | ret => rw [he] at hp ⊢; exact hQ _ _ _ hp
 cases hx : X c s with
 | none => rw [hx] at e; cases e
 | some q =>
  obtain ⟨ex1, s1⟩ := q
  rw [hx] at e
  cases ex1 with
  | norm =>
   simp only at e
   split at e
   ·rename_i s2 ht
    refine wpIn_mono (hX r nt c x hm s .norm s1 hx ro hro g a w n0 hR hd hn) fun e' a' w' hp => ?_
    obtain ⟨rfl, g1, hG, hd'⟩ := hp
    obtain ⟨g2, hG2⟩ := Goes.trim hR hG ht
    show Code.roundsIn _ _ _ _ _ _ _ _
    exact hL r nt keep c x hm s2 ex s' e ro hro g2 a' w' n0 hG2.rel hd' (Nat.le_trans hn hG2.keeps.size) Q fun e a'' w'' hp => hQ e a'' w'' (Post.trans hG2 hp)
   ·cases e
  | exit id =>
   simp only [Option.some.injEq, Prod.mk.injEq] at e
   exact fin s1 _ hx (by simp) e.1 e.2
  | ret =>
   simp only [Option.some.injEq, Prod.mk.injEq] at e
   exact fin s1 _ hx (by simp) e.1 e.2
/-! ### A scope without jumps -/
theorem a4T {P : Program} {b : Frame} {k : List Item} {cs : List Frame} {c : Code} : Go.step P (lone (b.atR a (.code (.scope c) :: k)) cs w) = .next (lone (b.atR a (.code c :: .inScope c :: k)) cs w) :=
 step_lone_go (by simp [stepG, stepG.exec, Frame.atR])
theorem b3F {P : Program} {b : Frame} {k : List Item} {cs : List Frame} {c : Code} : Go.step P (lone (b.atR a (.inScope c :: k)) cs w) = .next (lone (b.atR a k) cs w) :=
 step_lone_go (by simp [stepG, stepG.exec, Frame.atR])
theorem b7f {F : Fence} {n : Nat} {P : Program} {c : Code} {Q : Exit -> Act -> World -> Prop} (hg : ∀ l a w, ¬ Q (.goto l) a w) (h : c.wpIn F n P Q a w) : (Code.scope c).wpIn F n P Q a w := by
 intro b k cs hro hb hr
 have h0 : (lone (b.atR a (.code (.scope c) :: k)) cs w).fenced P F := fenced_calm hb hr rfl
 obtain ⟨e, a₁, w₁, hq, harr⟩ := h b (.inScope c :: k) cs hro hb hr
 cases e with
 | normal => exact ⟨.normal, a₁, w₁, hq, .head h0 a4T (StepsIn.trans harr (.one (fenced_calm hb hr rfl) b3F))⟩
 | exit id =>
  have hx : exitTo id (.inScope c :: k) = exitTo id k := by simp [exitTo]
  exact ⟨_, a₁, w₁, hq, fun k' hk => .head h0 a4T (harr.1 k' (by rw [hx]; exact hk)),
   fun hr' hk => let ⟨k₁, h1, h2⟩ := harr.2 hr' (by rw [hx]; exact hk); ⟨k₁, h1, .head h0 a4T h2⟩⟩
 | goto l => exact (hg _ _ _ hq).elim
 | ret => exact ⟨_, a₁, w₁, hq, .of_steps (.one h0 a4T) harr⟩
 | panic ch => exact ⟨_, a₁, w₁, hq, .of_steps (.one h0 a4T) harr⟩
 | outgrown => exact ⟨_, a₁, w₁, hq, .of_steps (.one h0 a4T) harr⟩
theorem b5A {l : Nat} : ¬ Post S G nt n0 g s s' a w ex (.goto l) a' w' := by
 rintro ⟨h, _⟩
 cases ex <;> cases h
/-! ### A loop over a function -/
theorem b5q (t : List (Nat × V)) (i : Nat) : get (a3i t) i = (get t i).a0r := by
 unfold a3i
 induction t with
 | nil => rfl
 | cons p t ih =>
  simp only [List.map_cons, get]
  split
  ·rfl
  ·exact ih
theorem b9C {h : List Obj} {o : Obj} : (h ++ List.replicate 1 Obj.free).set h.length o = h ++ [o] := by
 simp
theorem c1z (hR : RelH S G g h w) {p b : Nat} (hp : h[p]? = some .free) : g.Le (g.with p b) := by
 refine ⟨fun r h => .inr h, fun r h => ?_, fun _ _ _ h => h, fun _ _ h => h⟩
 have hne : r ≠ p := by
  rintro rfl
  obtain ⟨o, ho, hf⟩ := hR.as r h
  rw [hp] at ho
  simp only [Option.some.injEq] at ho
  subst ho
  simp [a6U] at hf
 simp [Gh.with, hne]
theorem Goes.defers (hG : Goes S G nt g g' s s' a a' w w') (d : List Deferred) : Goes S G nt g g' s s' a { a' with defers := d } w w' :=
 ⟨hG.le, ⟨hG.rel.hp, hG.rel.sz, hG.rel.tm, hG.rel.exT, hG.rel.exTH, hG.rel.clT⟩, hG.keeps, hG.back, hG.im, hG.mm⟩
theorem b8d {K : a1n} (hK : SimK S G K) {f : Rand} {f' : Operand} {ps : List Nat} {ca cb : AC} {x y : Code} (hf : MR S G f f') (h1 : MC S G nt true ca x) (h2 : MC S G nt true cb y) (hps : ∀ p ∈ ps, p < nt)
 (X : a3Z) (e : a0U S.Γ X K (.rfunc f ps ca cb) s = some (ex, s')) (hR : Rel S G g nt s a w) (hd : Dfs n0 a w) (hn : n0 <= w.heap.size) :
 (Code.rangeFunc f' ps.toArray x y).wpIn Fence.wide 0 S.P (Post S G nt n0 g s s' a w ex) a w := by
 simp only [a0U] at e
 split at e
 ·rename_i id vs ht
  split at e
  ·cases e
  ·rename_i v0 h2' hk
   split at e
   ·rename_i st pend t1 ps1 ca1 cb1 hl
    split at e
    ·cases e
    ·rename_i hst
     split at e
     case isFalse => cases e
     rename_i hun
     simp only [Option.some.injEq, Prod.mk.injEq] at e
     obtain ⟨rfl, rfl⟩ := e
     refine wpIn_rangeFunc fun fn _ => ?_
     -- the two blocks
     let w1 : World := w.alloc (.deferred (some []))
     let L : Loop := { state := .ready, pending := none, fn, tmps := a.tmps, params := ps.toArray, assign := x, body := y, defers := w.heap.size }
     let wl : World := w1.alloc (.loop L)
     have hs1 : w1.heap.size = w.heap.size + 1 := by simp [w1]
     have hG1 : Goes S G nt g g s s a a w w1 := .grow hR (Grows.alloc g w _)
     have hG2 := hG1.trans (Goes.room hG1.rel 1)
     have hfree : (s.h ++ List.replicate 1 Obj.free)[s.h.length]? = some .free := by simp
     have hle3 := c1z (b := w1.heap.size) hG2.rel.hp hfree
     have hslot : ∀ i, RV S (g.with s.h.length w1.heap.size) (get (a3i s.t) i) (a.tmps.getD i undef) := fun i => by
      rw [b5q]; exact (hR.tm i).a0r.mono hle3
     have hb3 := Goes.born (takes := []) (off0 := 0) (o' := .loop .ready none (a3i s.t) ps ca cb) (ob := .loop L) hG2.rel hfree rfl
      ⟨L, nt, heap_alloc_new _ _, rfl, rfl, by simp [L], h1, h2, hR.sz, hslot, hps⟩ (by
       rintro j b ⟨cs, es, l, vals, elem, fr, ad, m, cap, e1, _⟩
       simp at e1)
     have hG3 := hG2.trans hb3
     have hst3 : ({ t := Pm.drop [] s.t, h := (s.h ++ List.replicate 1 Obj.free).set s.h.length (.loop .ready none (a3i s.t) ps ca cb) } : St) = ⟨s.t, s.h ++ [.loop .ready none (a3i s.t) ps ca cb]⟩ := by
      rw [b9C]; rfl
     rw [hst3] at hG3
     have hσ3 : (g.with s.h.length w1.heap.size).σ s.h.length = w.heap.size + 1 := by simp [Gh.with, hs1]
     have hyv : RV S (g.with s.h.length w1.heap.size) (.sc (.fn (.yield s.h.length) [] [] [])) (.func (.yield (w.heap.size + 1)) #[] #[]) := by
      have := RC.yield (S := S) (g := g.with s.h.length w1.heap.size) s.h.length (.inl rfl)
      rw [hσ3] at this
      exact .sc _ _ this
     obtain ⟨d, ys, hd0, hld, hvs⟩ := b0n ((a0M hR hf).mono hG3.le) (⟨rfl, fun j v u a b => by
      rcases j with _ | j
      ·simp at a b; subst a; subst b; exact hyv
      ·simp at a⟩ : RVs S (g.with s.h.length w1.heap.size) [.sc (.fn (.yield s.h.length) [] [] [])] [.func (.yield (w.heap.size + 1)) #[] #[]]) ht
     obtain ⟨⟨fnn, hfn, hname, hbody⟩, hcall⟩ := hK (.fn id) vs _ v0 h2' hk _ wl ys hG3.rel.hp hvs
     obtain ⟨cap, htg, hargs⟩ := hld
     refine ⟨w.heap.size + 1, [{ target := .collected w.heap.size, args := #[] }], wl, d, wl, S.fm id, ys.toArray, wl, run_enterLoop_outer fn a.tmps ps.toArray x y, ?_, fun _ _ => trivial, ?_, fun hc => (by cases hc), hcall.mono fun e w3 hp => ?_⟩
     ·have : resolve a.eval (rangeCall f' (w.heap.size + 1)) 0 = pure d := by
       simp only [resolve]
       rw [← hd0]
       congr 1
       simp [Act.eval]
      rw [this]; rfl
     ·simp [invoke, htg, hargs, callFunc, hfn, hname, hbody]
     ·obtain ⟨xv, g4, rfl, hGH, _⟩ := hp
      have hG4 := hG3.trans (Goes.frame hG3.rel hGH)
      have hR4 := hG4.rel
      have hl4 : g4.A s.h.length := hGH.le.as _ (.inl rfl)
      have hσ4 : g4.σ s.h.length = w.heap.size + 1 := by rw [hGH.le.eq _ (.inl rfl), hσ3]
      obtain ⟨L4, nt4, hb4, k1, k2, _⟩ := hR4.hp.ob s.h.length _ hl
      rw [hσ4] at hb4
      have hnb : L4.state ≠ .busy := by rw [k1]; cases st <;> simp [lsOf] at hst ⊢
      refine ⟨L4.pending, w3.putObj (w.heap.size + 1) (.loop { L4 with state := .exhausted }), run_endLoop hb4 hnb, ?_⟩
      -- the loop's object dies
      have hle5 : g.Le (g4.kill h2' w3 (fun r => s.h.length <= r) (fun r => g4.A r /\ r < s.h.length)) :=
       ⟨fun r hA => ⟨hG4.le.as r hA, A_lt hR.hp hA⟩, fun r hA => hG4.le.eq r hA, fun b o v e => a3O hR4.hp (hG4.le.im b o v e), fun b es e => a3A hR4.hp (hG4.le.mm b es e)⟩
      have hG5 := hG4.kills (t' := s.t) (a9T hR4.hp s.h.length hun) (fun r hA => ⟨hG4.le.as r hA, A_lt hR.hp hA⟩) (fun i => by
       have t0 := hR.tm i
       have t4 := hR4.tm i
       have t4' : RT S g4 w3 (get s.t i) (a.tmps.getD i undef) := t4
       generalize hv : get s.t i = v at t0 t4'
       generalize hx : a.tmps.getD i undef = u at t0 t4'
       cases t0 with
       | rv _ _ h => exact .rv _ _ (h.mono hle5)
       | own es l b off cap _ =>
        cases t4' with
        | rv _ _ h =>
         cases h with
         | sc _ _ h => exact absurd rfl (h.a2a _ _)
        | own _ _ _ _ _ ho =>
         have hc : a0S s.t a.tmps i b := ⟨es, l, _, _, _, hv, hx, rfl⟩
         exact .own _ _ _ _ _ ⟨ho.rel.a3I rfl (fun _ _ _ e => a3O hR4.hp e) (fun _ _ e => a3A hR4.hp e), ho.blk, fun o hoo => by
          rw [a6p (fun r o e hl => hR4.clT i b r o hc e hl)]; exact ho.spare o hoo⟩) (fun _ _ h => h)
      have hO : Other (g4.kill h2' w3 (fun r => s.h.length <= r) (fun r => g4.A r /\ r < s.h.length)) (h2'.take s.h.length) w3 (w.heap.size + 1) := by
       refine ⟨fun cs t fr h => (by rw [hb4] at h; cases h), fun es n h => (by rw [hb4] at h; cases h), fun r o e hl5 hs5 => ?_⟩
       rw [List.getElem?_take] at e
       split at e
       ·rename_i hlt
        have := hR4.hp.inj r s.h.length o _ e hl hl5 rfl (by rw [hσ4]; exact hs5)
        omega
       ·cases e
      have hG6 := (hG5.poke (ob := .loop { L4 with state := .exhausted }) (by omega) hO).defers ([{ target := .collected w.heap.size, args := #[] }] ++ a.defers)
      have hD6 : Dfs n0 { a with defers := [{ target := .collected w.heap.size, args := #[] }] ++ a.defers } (w3.putObj (w.heap.size + 1) (.loop { L4 with state := .exhausted })) := by
       obtain ⟨bs, d1, d2, d3⟩ := hd
       refine ⟨w.heap.size :: bs, by simp [d1], List.nodup_cons.2 ⟨fun hm => ?_, d2⟩, fun b hb => ?_⟩
       ·have := a2A (d3 _ hm).2; omega
       ·rcases List.mem_cons.1 hb with rfl | hb
        ·refine ⟨hn, ?_⟩
         rw [World.putObj_heap_other (by omega)]
         have hw : wl.heap[w.heap.size]? = some (.deferred (some [])) := by
          show (w1.alloc _).heap[w.heap.size]? = _
          rw [a8K w1 _ _ (by omega)]
          exact heap_alloc_new w _
         have hkeep := (Goes.frame hG3.rel hGH).keeps
         rw [hkeep.same _ (a2A hw) (a5o hG3.rel hw).2]
         exact hw
        ·obtain ⟨q1, q2⟩ := d3 b hb
         refine ⟨q1, ?_⟩
         have hlt := a2A q2
         rw [World.putObj_heap_other (by omega), hG4.keeps.same b hlt (a5o hR q2).2]
         exact q2
      have fin : ∀ q, q = pend.getD .norm -> Post S G nt n0 g s { s with h := h2'.take s.h.length } a w (pend.getD .norm) (b4k q) { a with defers := [{ target := .collected w.heap.size, args := #[] }] ++ a.defers } (w3.putObj (w.heap.size + 1) (.loop { L4 with state := .exhausted })) :=
       fun q hq => ⟨by rw [hq], _, hG6, hD6⟩
      generalize w3.putObj (w.heap.size + 1) (.loop { L4 with state := .exhausted }) = W4 at fin ⊢
      rw [k2]
      cases pend with
      | none => exact fin .norm rfl
      | some q =>
       cases q with
       | norm => exact fin .norm rfl
       | exit id => exact wpIn_exit (fin (.exit id) rfl)
       | ret => exact wpIn_ret (fin .ret rfl)
   ·cases e
 ·cases e
theorem b8O (hmix : S.P.follows .mixedOrders = true) {X : a3Z} {K : a1n} (hX : SimX S G X) (hK : SimK S G K) {n : Nat} (hL : SimL S G X n) : SimX S G (a0U S.Γ X K) := by
 intro r nt c c' hm
 have h0 : ∀ {s : St} {g a w n0}, Rel S G g nt s a w -> Dfs n0 a w -> ∀ {ex}, Post S G nt n0 g s s a w ex (b4k ex) a w := fun hR hd => ⟨rfl, _, .refl hR, hd⟩
 induction hm with
 | skip r =>
  intro s ex s' e ro hro g a w n0 hR hd hn
  simp only [a0U, Option.some.injEq, Prod.mk.injEq] at e
  obtain ⟨rfl, rfl⟩ := e
  exact wpIn_skip (h0 hR hd)
 | label r l =>
  intro s ex s' e ro hro g a w n0 hR hd hn
  simp only [a0U, Option.some.injEq, Prod.mk.injEq] at e
  obtain ⟨rfl, rfl⟩ := e
  exact wpIn_label (h0 hR hd)
 | seqLabel r l a y hmc ih =>
  intro s ex s' e ro hro g a w n0 hR hd hn
  exact wpIn_seq (wpIn_label (ih s ex s' e ro hro g a w n0 hR hd hn))
 | scope r a y hmc ih =>
  intro s ex s' e ro hro g a w n0 hR hd hn
  exact b7f (fun _ _ _ => b5A) (ih s ex s' e ro hro g a w n0 hR hd hn)
 | seq r a b x y h1 h2 ih1 ih2 =>
  intro s ex s' e ro hro g act w n0 hR hd hn
  simp only [a0U] at e
  cases hx : X a s with
  | none => rw [hx] at e; cases e
  | some q =>
   obtain ⟨ex1, s1⟩ := q
   rw [hx] at e
   refine wpIn_seq (wpIn_mono (hX r nt a x h1 s ex1 s1 hx ro hro g act w n0 hR hd hn) fun e' a' w' hp => ?_)
   have he := hp.1
   subst he
   cases ex1 with
   | norm =>
    obtain ⟨_, g1, hG, hd'⟩ := hp
    show y.wpIn _ _ _ _ _ _
    exact wpIn_mono (hX r nt b y h2 s1 ex s' e ro hro g1 a' w' n0 hG.rel hd' (Nat.le_trans hn hG.keeps.size)) fun e'' a'' w'' hp => Post.trans hG hp
   | exit id =>
    simp only [Option.some.injEq, Prod.mk.injEq] at e
    obtain ⟨rfl, rfl⟩ := e
    exact hp
   | ret =>
    simp only [Option.some.injEq, Prod.mk.injEq] at e
    obtain ⟨rfl, rfl⟩ := e
    exact hp
 | cond r c c' a b x y hc h1 h2 ih1 ih2 =>
  intro s ex s' e ro hro g act w n0 hR hd hn
  simp only [a0U] at e
  have hcv := a0M hR hc
  split at e
  ·rename_i hb
   rw [hb] at hcv
   exact wpIn_cond_true hcv.a5S (hX r nt a x h1 s ex s' e ro hro g act w n0 hR hd hn)
  ·rename_i hb
   rw [hb] at hcv
   exact wpIn_cond_false hcv.a5S (hX r nt b y h2 s ex s' e ro hro g act w n0 hR hd hn)
  ·cases e
 | block r id a x h1 ih1 =>
  intro s ex s' e ro hro g act w n0 hR hd hn
  simp only [a0U] at e
  cases hx : X a s with
  | none => rw [hx] at e; cases e
  | some q =>
   obtain ⟨ex1, s1⟩ := q
   rw [hx] at e
   refine wpIn_block (wpIn_mono (hX r nt a x h1 s ex1 s1 hx ro hro g act w n0 hR hd hn) fun e' a' w' hp => ?_)
   have he := hp.1
   subst he
   cases ex1 with
   | norm =>
    simp only [Option.some.injEq, Prod.mk.injEq] at e
    obtain ⟨rfl, rfl⟩ := e
    exact hp
   | exit id' =>
    simp only at e
    show if id' = id then _ else _
    split at e
    ·rename_i hid
     rw [if_pos hid]
     simp only [Option.some.injEq, Prod.mk.injEq] at e
     obtain ⟨rfl, rfl⟩ := e
     exact ⟨rfl, hp.2⟩
    ·rename_i hid
     rw [if_neg hid]
     simp only [Option.some.injEq, Prod.mk.injEq] at e
     obtain ⟨rfl, rfl⟩ := e
     exact hp
   | ret =>
    simp only [Option.some.injEq, Prod.mk.injEq] at e
    obtain ⟨rfl, rfl⟩ := e
    exact hp
 | loop r keep a x h1 ih1 =>
  intro s ex s' e ro hro g act w n0 hR hd hn
  exact wpIn_loop_rounds (n + 1) (b4D hX hL r nt keep a x h1 s ex s' e ro hro g act w n0 hR hd hn _ fun _ _ _ hp => hp)
 | exit r id =>
  intro s ex s' e ro hro g a w n0 hR hd hn
  simp only [a0U, Option.some.injEq, Prod.mk.injEq] at e
  obtain ⟨rfl, rfl⟩ := e
  exact wpIn_exit (h0 (ex := .exit id) hR hd)
 | ret r =>
  intro s ex s' e ro hro g a w n0 hR hd hn
  simp only [a0U, Option.some.injEq, Prod.mk.injEq] at e
  obtain ⟨rfl, rfl⟩ := e
  exact wpIn_ret (h0 (ex := .ret) hR hd)
 | frz r i a y h1 ih1 =>
  intro s ex s' e ro hro g act w n0 hR hd hn
  simp only [a0U] at e
  split at e
  ·rename_i s1 hf
   obtain ⟨g1, hG⟩ := b5o hR hf
   exact wpIn_mono (hX r nt a y h1 s1 ex s' e ro hro g1 act w n0 hG.rel hd hn) fun e' a' w' hp => Post.trans hG hp
  ·cases e
 | frzc r i a y h1 ih1 =>
  intro s ex s' e ro hro g act w n0 hR hd hn
  simp only [a0U] at e
  split at e
  ·rename_i s1 hf
   obtain ⟨g1, hG⟩ := b4p hR hf
   exact wpIn_mono (hX r nt a y h1 s1 ex s' e ro hro g1 act w n0 hG.rel hd hn) fun e' a' w' hp => Post.trans hG hp
  ·cases e
 | region r nal ops keep id ops' hm =>
  intro s ex s' e ro hro g a w n0 hR hd hn
  have hex : ex = .norm := by
   simp only [a0U, Pm.region, Option.map_eq_some_iff, Prod.mk.injEq] at e
   obtain ⟨_, _, h, _⟩ := e
   exact h.symm
  subst hex
  have e' : Pm.region S.Γ K nal ops false keep s = some (.norm, s') := e
  exact b3t hK hmix hm (fun h => by cases h) hR e' ro fun _ a' w' g' hG hdf => ⟨rfl, g', hG, hd.goes hR hG hdf⟩
 | draw r nal ops keep id ops' hm hdr =>
  intro s ex s' e ro hro g a w n0 hR hd hn
  have hex : ex = .norm := by
   simp only [a0U, Pm.region, Option.map_eq_some_iff, Prod.mk.injEq] at e
   obtain ⟨_, _, h, _⟩ := e
   exact h.symm
  subst hex
  have e' : Pm.region S.Γ K nal ops true keep s = some (.norm, s') := e
  exact b3t hK hmix hm (fun _ => hdr) hR e' ro fun _ a' w' g' hG hdf => ⟨rfl, g', hG, hd.goes hR hG hdf⟩
 | stuck r c =>
  intro s ex s' e ro hro g a w n0 hR hd hn
  simp [a0U] at e
 | union r keep it dst n o nx r3 r4 r5 nxt m pr ks bx u kv z o0 o1 a0 a1 a2 a3 b0 b1 b2 hM =>
  intro s ex s' e ro hro g a w n0 hR hd hn
  exact b9X hM hR e ro fun hex a' w' g' hG hdf => ⟨by rw [hex]; rfl, g', hG, hd.goes hR hG hdf⟩
 | rfunc f f' ps a b x y hf h1 h2 hp ih1 ih2 =>
  intro s ex s' e ro hro g act w n0 hR hd hn
  cases ro with
  | some l => cases hro
  | none => exact b8d hK hf h1 h2 hp X e hR hd hn
end
end Go.Pm
namespace Go.Pm
def MRes (P : Program) : List (Nat × Option (Option Nat)) -> List ResultVar -> Prop
 | [], [] => True
 | (t, none) :: rs, .tmp t' :: rs' => t = t' /\ MRes P rs rs'
 | (t, some n) :: rs, .cell t' ty :: rs' => t = t' /\ TSh P ty n /\ MRes P rs rs'
 | _, _ => False
structure FnOk (S : Seat) (G : List Nat) (id : Nat) (f : Fn) : Prop where
 ex : ∃ fn c, S.P.funcs[S.fm id]? = some fn /\ fn.body = some c /\ fn.name ≠ "runtime.NumGoroutine" /\ fn.ntmps = f.nt /\ MC S G f.nt false f.body c /\ f.np <= f.nt /\ MRes S.P f.res fn.results.toList
structure SeatOk (S : Seat) (G : List Nat) : Prop where
 mixed : S.P.follows .mixedOrders = true
 fn : ∀ id f, S.Γ.fn id = some f -> FnOk S G id f
 prim : ∀ id p vs h v h', S.Γ.fn id = none -> S.Γ.prim id = some p -> p vs h = some (v, h') -> ∀ g w xs, RelH S G g h w -> RVs S g vs xs →
  (∃ fn, S.P.funcs[S.fm id]? = some fn /\ fn.name ≠ "runtime.NumGoroutine" /\ fn.body ≠ none) /\ CallsIn Fence.wide 0 S.P (S.fm id) xs.toArray w (a3j S G g h h' w v)
section
variable {S : Seat} {G : List Nat} {g g' g'' g1 : Gh} {nt n0 : Nat} {s s' s'' s1 s2 : St} {a a' a'' a1 : Act} {w w' w'' w1 : World} {h h' : List Obj} {base : Nat} {ex ex' : Ex}
theorem b1P : ∀ (vs : List V) (n i : Nat), get (number n vs) i = if n <= i then (vs[i - n]?).getD (.sc .top) else .sc .top
 | [], n, i => by simp [number, get]
 | v :: vs, n, i => by
  simp only [number, get]
  by_cases h : n = i
  ·subst h; simp
  ·rw [if_neg h, b1P vs (n + 1) i]
   by_cases h2 : n <= i
   ·rw [if_pos (by omega), if_pos h2, show i - n = (i - (n + 1)) + 1 from by omega]
    simp
   ·rw [if_neg (by omega), if_neg h2]
theorem b9N {vs : List V} {xs : List Value} (hx : RVs S g vs xs) (k i : Nat) : RV S g (get (number 0 vs) i) ((xs.toArray ++ Array.replicate k undef).getD i undef) := by
 rw [b1P]
 simp only [Nat.zero_le, if_true, Nat.sub_zero]
 cases hv : vs[i]? with
 | none => exact .top _
 | some v =>
  have hlt : i < xs.length := by rw [← hx.1]; exact (List.getElem?_eq_some_iff.1 hv).1
  have : (xs.toArray ++ Array.replicate k undef).getD i undef = xs[i] := by
   simp [Array.getD_eq_getD_getElem?, Array.getElem?_append, hlt]
  rw [this]
  exact hx.2 i v _ hv (List.getElem?_eq_getElem hlt)
theorem a7H {t : List (Nat × V)} {tm : Array Value} (h : ∀ i, RV S g (get t i) (tm.getD i undef)) (i b : Nat) : ¬ a0S t tm i b := by
 rintro ⟨es, l, ad, n, cap, h1, _⟩
 have := h i
 rw [h1] at this
 cases this with
 | sc _ _ h => exact absurd rfl (h.a2a es l)
theorem b3y (hR : RelH S G g h w) {t : List (Nat × V)} {tm : Array Value} (hsz : tm.size = nt) (ht : ∀ i, RV S g (get t i) (tm.getD i undef)) : Rel S G g nt ⟨t, h⟩ { tmps := tm, defers := [] } w :=
 ⟨hR, hsz, fun i => .rv _ _ (ht i), fun i i' b c => absurd c (a7H ht i b), fun i b r j c => absurd c (a7H ht i b), fun i b r o c => absurd c (a7H ht i b)⟩
theorem b5D (hR : Rel S G g nt s a w) {t : Nat} {n : Option Nat} {ty : TypeId} (hs : TSh S.P ty n) {v : V} (e : a7K s (t, some n) = some v) :
 ∃ x, ((do loadVar ty (← asAddr (a.tmps.getD t undef)) : Sem Value)).run S.P w = .ok x w /\ RV S g v x := by
 simp only [a7K] at e
 split at e
 ·rename_i r off hp
  have hx : RV S g (.sc (.ptr r off)) (a.tmps.getD t undef) := by
   have := hR.tm t
   rw [hp] at this
   cases this with
   | rv _ _ h => exact h
  obtain ⟨hA, hx⟩ := hx.a3J
  split at e
  ·rename_i cs hcs
   obtain ⟨vals, elem, hb, hs', hro⟩ := hR.hp.ob r _ hcs
   obtain ⟨y, hy, hrv⟩ := a9m (w := w) (g := g) (b := g.σ r) (o := 0) hs (fun j c hj => by
    have : j < vals.size := Nat.lt_of_lt_of_le (List.getElem?_eq_some_iff.1 hj).1 hs'
    exact ⟨vals[j], by rw [Nat.zero_add, cell_of_heap hb, Array.getElem?_eq_getElem this], hro j c _ hj (Array.getElem?_eq_getElem this)⟩) e
   rw [Nat.zero_add] at hy
   exact ⟨y, by rw [hx]; simp [asAddr, hy], hrv⟩
  ·cases e
 ·cases e
def a8U (tm : Array Value) : ResultVar -> Sem Value
 | .tmp t => pure (tm.getD t undef)
 | .cell ad t => do loadVar t (← asAddr (tm.getD ad undef))
theorem b6R (fn : Func) (tm : Array Value) : Go.results fn tm = (do let vs ← fn.results.mapM (a8U tm); pure (if h : vs.size = 1 then vs[0] else .tuple vs)) := by
 unfold Go.results
 congr 1
theorem a8B (hR : Rel S G g nt s a w) : ∀ {rs : List (Nat × Option (Option Nat))} {rs' : List ResultVar} {vs : List V}, MRes S.P rs rs' -> results s rs = some vs →
 ∃ xs, (rs'.mapM (a8U a.tmps)).run S.P w = .ok xs w /\ RVs S g vs xs
 | [], [], vs, _, e => by
  simp only [results, Option.some.injEq] at e
  subst e
  exact ⟨[], by simp, rfl, fun j v x h => by simp at h⟩
 | (t, none) :: rs, .tmp t' :: rs', vs, hm, e => by
  obtain ⟨rfl, hm⟩ := hm
  simp only [results] at e
  split at e
  ·rename_i v vs' h1 h2
   simp only [Option.some.injEq] at e
   subst e
   obtain ⟨xs, hxs, hr⟩ := a8B hR hm h2
   simp only [a7K, Option.some.injEq] at h1
   subst h1
   refine ⟨a.tmps.getD t undef :: xs, ?_, by simp [hr.1], fun j v x k1 k2 => ?_⟩
   ·simp only [List.mapM_cons, a8U, Sem.run_bind, Sem.run_pure, Result.andThen_ok, hxs]
   ·rcases j with _ | j
    ·simp at k1 k2; subst k1; subst k2
     exact (by simpa [Array.getD_eq_getD_getElem?] using (hR.tm t).a0r)
    ·exact hr.2 j v x (by simpa using k1) (by simpa using k2)
  ·cases e
 | (t, some n) :: rs, .cell t' ty :: rs', vs, hm, e => by
  obtain ⟨rfl, hs, hm⟩ := hm
  simp only [results] at e
  split at e
  ·rename_i v vs' h1 h2
   simp only [Option.some.injEq] at e
   subst e
   obtain ⟨xs, hxs, hr⟩ := a8B hR hm h2
   obtain ⟨y, hy, hrv⟩ := b5D hR hs h1
   refine ⟨y :: xs, ?_, by simp [hr.1], fun j v x k1 k2 => ?_⟩
   ·have hy' : (a8U a.tmps (.cell t ty)).run S.P w = .ok y w := hy
    simp only [List.mapM_cons, Sem.run_bind, hy', Result.andThen_ok, hxs, Sem.run_pure]
   ·rcases j with _ | j
    ·simp at k1 k2; subst k1; subst k2; exact hrv
    ·exact hr.2 j v x (by simpa using k1) (by simpa using k2)
  ·cases e
 | [], _ :: _, _, hm, _ => by cases hm
 | (_, none) :: _, [], _, hm, _ => by cases hm
 | (_, some _) :: _, [], _, hm, _ => by cases hm
 | (_, none) :: _, .cell _ _ :: _, _, hm, _ => by cases hm
 | (_, some _) :: _, .tmp _ :: _, _, hm, _ => by cases hm
theorem b5b {vs : List V} {xs : Array Value} (h : RVs S g vs xs.toList) : RV S g (tuple vs) (if h : xs.size = 1 then xs[0] else .tuple xs) := by
 match vs, h with
 | [], h =>
  have : xs.size = 0 := by have := h.1; simpa using this.symm
  rw [dif_neg (by omega)]
  exact .tup [] xs (by simp [this]) fun j v x a => by simp at a
 | [v], h =>
  have : xs.size = 1 := by have := h.1; simpa using this.symm
  rw [dif_pos this]
  exact h.2 0 v _ rfl (by simp [this])
 | v :: v2 :: vs, h =>
  have hs : xs.size = vs.length + 2 := by have := h.1; simpa using this.symm
  rw [dif_neg (by omega)]
  exact .tup _ xs (by simp [hs]) fun j u x a b => h.2 j u x a (by simpa using b)
theorem a7X {fn : Func} {tm : Array Value} {R : Ending -> World -> Prop} : ∀ (bs : List Nat) (g1 : Gh) (w1 : World), bs.Nodup -> (∀ b ∈ bs, w.heap.size <= b /\ w1.heap[b]? = some (.deferred (some []))) -> Goes S G nt g g1 s s1 a { tmps := tm, defers := [] } w w1 →
 (∀ w2 g2, Goes S G nt g g2 s s1 a { tmps := tm, defers := [] } w w2 -> g2 = g1 -> ∃ v, (Go.results fn tm).run S.P w2 = .ok v w2 /\ R (.returned v) w2) →
 LeavesInM Fence.wide 0 S.P fn tm R (bs.map fun b => ({ target := .collected b, args := #[] } : Deferred)) .returning w1
 | [], g1, w1, _, _, hG, hk => hk w1 g1 hG rfl
 | b :: bs, g1, w1, hnd, hb, hG, hk => by
  obtain ⟨h1, h2⟩ := hb b (by simp)
  refine ⟨by simp, .inl ⟨b, _, rfl, run_takeDeferred h2, ?_⟩⟩
  have hnd' := List.nodup_cons.1 hnd
  refine a7X bs g1 _ hnd'.2 (fun c hc => ?_) (hG.poke h1 (a5o hG.rel h2).1) hk
  obtain ⟨k1, k2⟩ := hb c (by simp [hc])
  refine ⟨k1, ?_⟩
  have hcb : c ≠ b := by rintro rfl; exact hnd'.1 hc
  rw [World.putObj_heap_other hcb]
  exact k2
theorem c2b {X : a3Z} (hX : SimX S G X) {id : Nat} {f : Fn} (hf : FnOk S G id f) {vs : List V} {v : V} (e : a3D S.Γ X (.fn id) vs h = some (v, h')) (hΓ : S.Γ.fn id = some f) (hR : RelH S G g h w) {xs : List Value} (hx : RVs S g vs xs) :
 (∃ fn, S.P.funcs[S.fm id]? = some fn /\ fn.name ≠ "runtime.NumGoroutine" /\ fn.body ≠ none) /\ CallsIn Fence.wide 0 S.P (S.fm id) xs.toArray w (a3j S G g h h' w v) := by
 obtain ⟨fn, c, hfn, hbody, hname, hnt, hmc, hnp, hres⟩ := hf.ex
 refine ⟨⟨fn, hfn, hname, by rw [hbody]; simp⟩, callsIn_of_wp_marks hfn hbody trivial ?_⟩
 simp only [a3D, hΓ] at e
 split at e
 ·cases e
 ·rename_i hlen
  simp only [ne_eq, Decidable.not_not] at hlen
  split at e
  ·rename_i ex1 s1 hx1
   have hsz : (xs.toArray ++ Array.replicate (fn.ntmps - xs.toArray.size) undef).size = f.nt := by
    simp only [Array.size_append, List.size_toArray, Array.size_replicate, hnt]
    have := hx.1
    omega
   have hst := b9N hx (fn.ntmps - xs.toArray.size)
   have hrel := b3y hR hsz hst
   have hwp := hX false f.nt f.body c hmc ⟨number 0 vs, h⟩ ex1 s1 hx1 none rfl g _ w w.heap.size hrel ⟨[], rfl, List.nodup_nil, by simp⟩ (Nat.le_refl _)
   refine wpIn_mono hwp fun e' a' w' hp => ?_
   obtain ⟨rfl, g1, hG, bs, hd1, hd2, hd3⟩ := hp
   have fin : (match results s1 f.res with
    | some rs => if f.opn then some (tuple rs, s1.h) else match a4X h.length s1.h rs with
     | some rs => if (s1.h.take h.length).all (Obj.under h.length) then some (tuple rs, s1.h.take h.length) else none
     | none => none
    | none => none) = some (v, h') -> LeavesInM Fence.wide 0 S.P fn a'.tmps (a3j S G g h h' w v) a'.defers .returning w' := by
    intro e
    split at e
    ·rename_i rs hrs
     have run2 : ∀ w2 g2, Goes S G f.nt g g2 ⟨number 0 vs, h⟩ s1 { tmps := xs.toArray ++ Array.replicate (fn.ntmps - xs.toArray.size) undef, defers := [] } { tmps := a'.tmps, defers := [] } w w2 →
      ∃ ys, (Go.results fn a'.tmps).run S.P w2 = .ok (if h : ys.toArray.size = 1 then ys.toArray[0] else .tuple ys.toArray) w2 /\ RVs S g2 rs ys := fun w2 g2 hG2 => by
      obtain ⟨ys, hys, hrv⟩ := a8B hG2.rel hres hrs
      refine ⟨ys, ?_, hrv⟩
      rw [b6R, Array.mapM_eq_mapM_toList]
      simp only [Sem.run_bind]
      have hys' : (fn.results.toList.mapM (a8U a'.tmps)).run S.P w2 = .ok ys w2 := hys
      rw [← bind_pure_comp, Sem.run_bind, hys', Result.andThen_ok, Sem.run_pure, Result.andThen_ok]
      rfl
     split at e
     ·simp only [Option.some.injEq, Prod.mk.injEq] at e
      obtain ⟨rfl, rfl⟩ := e
      rw [hd1]
      refine a7X (S := S) (G := G) (nt := f.nt) (g := g) (s := ⟨number 0 vs, h⟩) (s1 := s1) (a := { tmps := xs.toArray ++ Array.replicate (fn.ntmps - xs.toArray.size) undef, defers := [] }) (w := w) bs g1 w' hd2 hd3 (hG.defers []) (fun w2 g2 hG2 hg2 => ?_)
      subst hg2
      obtain ⟨ys, hrun, hrv⟩ := run2 w2 g2 hG2
      exact ⟨_, hrun, _, g2, rfl, a6h.of (fun i b => a7H hst i b) hG2, b5b (by simpa using hrv)⟩
     ·split at e
      ·rename_i rs' hfr
       split at e
       case isFalse => cases e
       rename_i hun
       simp only [Option.some.injEq, Prod.mk.injEq] at e
       obtain ⟨rfl, rfl⟩ := e
       rw [hd1]
       refine a7X (S := S) (G := G) (nt := f.nt) (g := g) (s := ⟨number 0 vs, h⟩) (s1 := s1) (a := { tmps := xs.toArray ++ Array.replicate (fn.ntmps - xs.toArray.size) undef, defers := [] }) (w := w) bs g1 w' hd2 hd3 (hG.defers []) (fun w2 g2 hG2 hg2 => ?_)
       subst hg2
       obtain ⟨ys, hrun, hrv⟩ := run2 w2 g2 hG2
       refine ⟨_, hrun, _, g2.above s1.h w2 h.length, rfl, (a6h.of (fun i b => a7H hst i b) hG2).above hun (fun r hA => A_lt hR hA), ?_⟩
       exact b5b (by simpa using b4q hG2.rel.hp hfr hrv)
      ·cases e
    ·cases e
   cases ex1 with
   | norm => exact fin e
   | ret => exact fin e
   | exit id => cases e
  ·cases e
/-! ### A round of a loop over a function -/
theorem a9z : ∀ (ps : List Nat) (vs : List V) (t : List (Nat × V)) (tm : Array Value) (xs : List Value), (∀ i, RV S g (get t i) (tm.getD i undef)) -> RVs S g vs xs -> (∀ p ∈ ps, p < tm.size) →
 ∀ i, RV S g (get (a2D ps vs t) i) (((ps.zip xs).foldl (fun tmps (p : Nat × Value) => tmps.setIfInBounds p.1 p.2) tm).getD i undef)
 | [], vs, t, tm, xs, ht, _, _, i => by simp only [a2D, List.zip_nil_left, List.foldl_nil]; exact ht i
 | p :: ps, [], t, tm, xs, ht, hx, _, i => by
  have : xs = [] := List.length_eq_zero_iff.1 hx.1.symm
  subst this
  simp only [a2D, List.zip_nil_right, List.foldl_nil]; exact ht i
 | p :: ps, v :: vs, t, tm, [], ht, hx, _, i => by have := hx.1; simp at this
 | p :: ps, v :: vs, t, tm, x :: xs, ht, hx, hp, i => by
  simp only [a2D, List.zip_cons_cons, List.foldl_cons]
  refine a9z ps vs ((p, v) :: t) (tm.setIfInBounds p x) xs (fun j => ?_) ⟨by simpa using hx.1, fun j v x a b => hx.2 (j + 1) v x (by simpa using a) (by simpa using b)⟩ (fun q hq => by simpa using hp q (by simp [hq])) i
  simp only [get]
  have hplt := hp p (by simp)
  by_cases hj : p = j
  ·subst hj
   rw [if_pos rfl]
   have : (tm.setIfInBounds p x).getD p undef = x := by simp [Array.getD_eq_getD_getElem?, hplt]
   rw [this]
   exact hx.2 0 v x rfl rfl
  ·rw [if_neg hj]
   have : (tm.setIfInBounds p x).getD j undef = tm.getD j undef := by simp [Array.getD_eq_getD_getElem?, hj]
   rw [this]
   exact ht j
theorem b1L : ∀ (l : List (Nat × Value)) (tm : Array Value), (l.foldl (fun tmps (p : Nat × Value) => tmps.setIfInBounds p.1 p.2) tm).size = tm.size
 | [], tm => rfl
 | p :: l, tm => by rw [List.foldl_cons, b1L l]; simp
theorem Goes.b6b (hR : Rel S G g nt s a w) {l : Nat} {o : Obj} {st : LS} {pend : Option Ex} {t : List (Nat × V)} {ps : List Nat} {ca cb : AC} (hl : s.h[l]? = some o) (ho : live o = true) {L : Loop}
 (hob : RObj S G g (w.putObj (g.σ l) (.loop L)) (.loop st pend t ps ca cb) (g.σ l)) :
 Goes S G nt g g s ⟨s.t, s.h.set l (.loop st pend t ps ca cb)⟩ a a w (w.putObj (g.σ l) (.loop L)) :=
 Goes.modify (takes := []) (off0 := 0) hR hl ho rfl (fun b hb => World.putObj_heap_other hb) (by simp) rfl rfl rfl hob (by
  rintro j b ⟨cs, es, l', vals, elem, fr, ad, m, cap, e1, _⟩
  have hlt : l < s.h.length := (List.getElem?_eq_some_iff.1 hl).1
  simp [hlt] at e1)
theorem b8r {X : a3Z} (hX : SimX S G X) {l : Nat} {vs : List V} {v : V} (e : a3D S.Γ X (.yield l) vs h = some (v, h')) (hR : RelH S G g h w) {xs : List Value} (hx : RVs S g vs xs) :
 ∃ f tmps x y, (Instr.yield (g.σ l) xs.toArray).run S.P w = .ok (.round (g.σ l) f tmps x y) w /\ RoundIn Fence.wide 0 S.P (g.σ l) f tmps x y w (a3j S G g h h' w v) := by
 simp only [a3D] at e
 split at e
 ·rename_i t ps ca cb hl
  split at e
  ·cases e
  ·rename_i hlen
   simp only [ne_eq, Decidable.not_not] at hlen
   obtain ⟨L, nt, hb, k1, k2, k3, k4, k5, k6, k7, k8⟩ := hR.ob l _ hl
   have hlA := hR.lv l _ hl rfl
   have hpsz : L.params = ps.toArray := by rw [← k3]
   have hfold : (L.params.zip xs.toArray).foldl (fun tmps (p : Nat × Value) => tmps.setIfInBounds p.1 p.2) L.tmps = (ps.zip xs).foldl (fun tmps (p : Nat × Value) => tmps.setIfInBounds p.1 p.2) L.tmps := by
    rw [hpsz, List.zip_toArray, List.foldl_toArray]
   have hyield := run_yield (P := S.P) (args := xs.toArray) hb (by rw [hpsz]; simp; have := hx.1; omega)
   have hyield' : (Instr.yield (g.σ l) xs.toArray).run S.P w = .ok (.round (g.σ l) L.fn ((ps.zip xs).foldl (fun tmps (p : Nat × Value) => tmps.setIfInBounds p.1 p.2) L.tmps) L.assign L.body) w := by
    rw [← hfold]; exact hyield
   refine ⟨L.fn, _, L.assign, L.body, hyield', roundIn_of_wpIn trivial ?_⟩
   have hst := a9z ps vs t L.tmps xs k7 hx (fun p hp => by rw [k6]; exact k8 p hp)
   have hrel := b3y (nt := nt) hR (by rw [b1L]; exact k6) hst
   split at e
   ·rename_i s1 hx1
    split at e
    ·rename_i t1 ps1 ca1 cb1 hl1
     split at e
     ·rename_i ex2 s2 hx2
      split at e
      ·rename_i pend2 t2 ps2 ca2 cb2 hl2
       by_cases hun : ((s2.h.set l (.loop (if ex2 = .norm then .ready else .done) (if ex2 = .norm then none else some ex2) t2 ps2 ca2 cb2)).take h.length).all (Obj.under h.length) = true
       case neg => rw [if_neg hun] at e; cases e
       rw [if_pos hun] at e
       simp only [Option.some.injEq, Prod.mk.injEq] at e
       obtain ⟨rfl, rfl⟩ := e
       have hwp := hX true nt ca L.assign k4 _ .norm s1 hx1 (some (g.σ l)) rfl g _ w w.heap.size hrel ⟨[], rfl, List.nodup_nil, by simp⟩ (Nat.le_refl _)
       refine wpIn_mono hwp fun e' a1 w1 hp => ?_
       obtain ⟨rfl, g1, hG1, hD1⟩ := hp
       have hσ1 : g1.σ l = g.σ l := hG1.le.eq l hlA
       obtain ⟨L1, nt1, hb1, j1, j2, j3, j4, j5, j6, j7, j8⟩ := hG1.rel.hp.ob l _ hl1
       have hb1' := hb1
       rw [hσ1] at hb1'
       refine ⟨_, run_beginRound hb1' (by rw [j1]; rfl), ?_⟩
       have hlt1 := a2A hb1
       have hG2 := Goes.b6b (st := .busy) (pend := none) (t := t1) (ps := ps1) (ca := ca1) (cb := cb1) (L := { L1 with state := .busy }) hG1.rel hl1 rfl ⟨_, nt1, World.putObj_heap_same hlt1, rfl, j2, j3, j4, j5, j6, j7, j8⟩
       rw [hσ1] at hG2
       have hG12 := hG1.trans hG2
       have hD2 := hD1.goes hG1.rel hG2 rfl
       have hwp2 := hX true nt cb L.body k5 _ ex2 s2 hx2 (some (g.σ l)) rfl g1 a1 _ w.heap.size hG2.rel hD2 hG12.keeps.size
       refine wpIn_mono hwp2 fun e' a2 w2 hp => ?_
       obtain ⟨rfl, g2, hG3, hD3⟩ := hp
       have hG := hG12.trans hG3
       have hσ2 : g2.σ l = g.σ l := hG.le.eq l hlA
       obtain ⟨L2, nt2, hb2, i1, i2, i3, i4, i5, i6, i7, i8⟩ := hG.rel.hp.ob l _ hl2
       have hb2' := hb2
       rw [hσ2] at hb2'
       have hlt2 := a2A hb2
       have key : ∀ (jump : Option Code), jump = b1F ex2 -> ∃ v w', (Instr.endRound (g.σ l) jump).run S.P w2 = .ok v w' /\ a3j S G g h ((s2.h.set l (.loop (if ex2 = .norm then .ready else .done) (if ex2 = .norm then none else some ex2) t2 ps2 ca2 cb2)).take h.length) w (.sc (.bool (decide (ex2 = .norm)))) (.returned v) w' := by
        intro jump hj
        have hjn : jump.isNone = decide (ex2 = .norm) := by subst hj; cases ex2 <;> simp [b1F]
        refine ⟨_, _, run_endRound jump hb2', ?_⟩
        have hG4 := Goes.b6b (st := if ex2 = .norm then .ready else .done) (pend := if ex2 = .norm then none else some ex2) (t := t2) (ps := ps2) (ca := ca2) (cb := cb2) (L := { L2 with state := if jump.isNone then .ready else .done, pending := jump }) hG.rel hl2 rfl
         ⟨_, nt2, World.putObj_heap_same hlt2, by rw [hjn]; cases ex2 <;> simp [lsOf], by subst hj; cases ex2 <;> simp [b1F], i3, i4, i5, i6, i7, i8⟩
        rw [hσ2] at hG4
        have hGo := a6h.of (fun i b => a7H hst i b) (hG.trans hG4)
        refine ⟨_, _, rfl, hGo.above hun (fun r hA => A_lt hR hA), ?_⟩
        rw [hjn]
        exact .sc _ _ (.bool _)
       cases ex2 with
       | norm => exact key none rfl
       | exit id => exact key (some (.exit id)) rfl
       | ret => exact key (some .ret) rfl
      ·cases e
     ·cases e
    ·cases e
   ·cases e
 ·cases e
theorem b8C (hS : SeatOk S G) {X : a3Z} (hX : SimX S G X) : SimK S G (a3D S.Γ X) := by
 intro fk vs h v h' e g w xs hR hx
 cases fk with
 | fn id =>
  cases hΓ : S.Γ.fn id with
  | some f => exact c2b hX (hS.fn id f hΓ) e hΓ hR hx
  | none =>
   simp only [a3D, hΓ] at e
   split at e
   ·rename_i p hp
    exact hS.prim id p vs h v h' hΓ hp e g w xs hR hx
   ·cases e
 | yield l => exact b8r hX e hR hx
theorem b6k (hS : SeatOk S G) : ∀ n, SimX S G (run S.Γ n).1 /\ SimK S G (run S.Γ n).2 /\ SimL S G (run S.Γ n).1 n
 | 0 => ⟨fun r nt c c' _ s ex s' e => by simp [run] at e, fun fk vs h v h' e => by simp [run] at e, fun r nt keep c x _ s ex s' e => by simp [run] at e⟩
 | n + 1 => by
  obtain ⟨h1, h2, h3⟩ := b6k hS n
  exact ⟨b8O hS.mixed h1 h2 h3, b8C hS h1, b4D h1 h3⟩
theorem c3k (hS : SeatOk S G) {id : Nat} {vs : List V} {v : V} (e : K S.Γ (.fn id) vs h = some (v, h')) (hR : RelH S G g h w) {xs : List Value} (hx : RVs S g vs xs) : Calls S.P (S.fm id) xs.toArray w (a3j S G g h h' w v) := by
 obtain ⟨n, hn⟩ := a9e.1 e
 exact callsIn_wide.1 ((b6k hS n).2.1 (.fn id) vs h v h' hn g w xs hR hx).2
end
end Go.Pm
namespace Go.Pm
def kc : C -> Value -> Bool
 | .int k n, .int k' m => decide (k = k') && decide (n = m)
 | .bool a, .bool b => a == b
 | .str a, .string b => decide (a = b)
 | .nilf, .nilFunc => true
 | .nilp, .pointer none => true
 | .nili, .nilIface => true
 | .sl .nil _ [], .slice none 0 0 => true
 | .imap _ _ [], .map none => true
 | _, _ => false
theorem c0g {c : C} {v : Value} (h : kc c v = true) : KC c v := by
 unfold kc at h
 split at h
 ·simp at h; obtain ⟨rfl, rfl⟩ := h; exact .int _ _
 ·simp at h; subst h; exact .bool _
 ·simp at h; subst h; exact .str _
 ·exact .nilf
 ·exact .nilp
 ·exact .nili
 ·exact .slNil _
 ·exact .imapNil _ _
 ·cases h
def kl : List C -> List Value -> Bool
 | [], [] => true
 | c :: cs, v :: vs => kc c v && kl cs vs
 | _, _ => false
theorem b6z : ∀ {cs : List C} {vs : List Value}, kl cs vs = true -> KL cs vs
 | [], [], _ => ⟨rfl, fun j c v h => by simp at h⟩
 | c :: cs, v :: vs, h => by
  simp only [kl, Bool.and_eq_true] at h
  obtain ⟨h1, h2⟩ := b6z h.2
  refine ⟨by simp [h1], fun j x y a b => ?_⟩
  rcases j with _ | j
  ·simp at a b; subst a; subst b; exact c0g h.1
  ·exact h2 j x y (by simpa using a) (by simpa using b)
 | [], _ :: _, h => by cases h
 | _ :: _, [], h => by cases h
def kv : V -> Value -> Bool
 | .agg z, .agg vs => kl z vs.toList
 | .tup [], .tuple vs => vs.isEmpty
 | .sc c, v => kc c v
 | _, _ => false
theorem c0j {v : V} {x : Value} (h : kv v x = true) : KV v x := by
 unfold kv at h
 split at h
 ·exact .agg _ _ (b6z h)
 ·rename_i vs
  have : vs = #[] := by simpa using h
  subst this
  exact .undef
 ·exact .sc _ _ (c0g h)
 ·cases h
section
variable (S : Seat) (G : List Nat)
def mr : Rand -> Operand -> Bool
 | .t i, .tmp j => i == j
 | .k v, .const x => kv v x
 | .f id, .func f => S.fm id == f
 | .g id, .global n => G.contains id && S.gm id == n
 | _, _ => false
variable {S G} in
theorem a0H {x : Rand} {y : Operand} (h : mr S G x y = true) : MR S G x y := by
 unfold mr at h
 split at h
 ·simp at h; subst h; exact .t _
 ·exact .k _ _ (c0j h)
 ·simp at h; subst h; exact .f _
 ·simp at h; obtain ⟨h1, rfl⟩ := h; exact .g _ h1
 ·cases h
def mt : Rand -> Operand -> Bool
 | .tk i, .tmp j => i == j
 | x, y => mr S G x y
variable {S G} in
theorem b2e {x : Rand} {y : Operand} (h : mt S G x y = true) : MT S G x y := by
 unfold mt at h
 split at h
 ·simp at h; subst h; exact .tk _
 ·exact .r _ _ (a0H h)
def mrs : List Rand -> List Operand -> Bool
 | [], [] => true
 | x :: xs, y :: ys => mr S G x y && mrs xs ys
 | _, _ => false
variable {S G} in
theorem a6r : ∀ {xs : List Rand} {ys : List Operand}, mrs S G xs ys = true -> MRs S G xs ys
 | [], [], _ => trivial
 | x :: xs, y :: ys, h => by
  simp only [mrs, Bool.and_eq_true] at h
  exact ⟨a0H h.1, a6r h.2⟩
 | [], _ :: _, h => by cases h
 | _ :: _, [], h => by cases h
def mro : Option Rand -> Option Operand -> Bool
 | none, none => true
 | some x, some y => mr S G x y
 | _, _ => false
variable {S G} in
theorem a7n {x : Option Rand} {y : Option Operand} (h : mro S G x y = true) : MRo S G x y := by
 unfold mro at h
 split at h
 ·trivial
 ·exact a0H h
 ·cases h
end
section
variable (P : Program)
def szIs (t : TypeId) (n : Nat) : Bool := match P.info? t with
 | some i => i.size == n
 | none => false
variable {P} in
theorem a5w {t : TypeId} {n : Nat} (h : szIs P t n = true) : a3o P t n := by
 unfold szIs at h
 split at h
 ·rename_i i hi; exact ⟨i, hi, by simpa using h⟩
 ·cases h
def tsh (t : TypeId) : Option Nat -> Bool
 | none => match P.underlying t with
  | some d => !a5C d
  | none => false
 | some n => match P.underlying t with
  | some d => a5C d && szIs P t n
  | none => false
variable {P} in
theorem b0q {t : TypeId} {n : Option Nat} (h : tsh P t n = true) : TSh P t n := by
 cases n with
 | none =>
  simp only [tsh] at h
  split at h
  ·rename_i d hd; exact ⟨d, hd, by simpa using h⟩
  ·cases h
 | some n =>
  simp only [tsh] at h
  split at h
  ·rename_i d hd
   simp only [Bool.and_eq_true] at h
   obtain ⟨i, hi, hs⟩ := a5w h.2
   exact ⟨d, i, hd, h.1, hi, hs⟩
  ·cases h
def tz (t : TypeId) (z : List C) : Bool := match P.info? t with
 | some i => match i.zero with
  | some zv => kl z zv.cells.toList
  | none => false
 | none => false
variable {P} in
theorem b2w {t : TypeId} {z : List C} (h : tz P t z = true) : a5G P t z := by
 unfold tz at h
 split at h
 ·rename_i i hi
  split at h
  ·rename_i zv hz; exact ⟨i, zv, hi, hz, b6z h⟩
  ·cases h
 ·cases h
def tzv (t : TypeId) (z : V) : Bool := match P.info? t with
 | some i => match i.zero with
  | some zv => kv z zv
  | none => false
 | none => false
variable {P} in
theorem b5d {t : TypeId} {z : V} (h : tzv P t z = true) : a7g P t z := by
 unfold tzv at h
 split at h
 ·rename_i i hi
  split at h
  ·rename_i zv hz; exact ⟨i, zv, hi, hz, c0j h⟩
  ·cases h
 ·cases h
def a5A (t : TypeId) (ty : KT) : Bool := match flat P 20 t with
 | some k => k.agg == ty.agg && decide (k.tags = ty.tags)
 | none => false
variable {P} in
theorem a4o {t : TypeId} {ty : KT} (h : a5A P t ty = true) : flat P 20 t = some ty := by
 unfold a5A at h
 split at h
 ·rename_i k hk
  simp only [Bool.and_eq_true, beq_iff_eq, decide_eq_true_eq] at h
  obtain ⟨a, b⟩ := k
  obtain ⟨c, d⟩ := ty
  simp only at h
  obtain ⟨rfl, rfl⟩ := h
  exact hk
 ·cases h
def sliceOf (t : TypeId) : Option TypeId := match P.underlying t with
 | some (.slice e) => some e
 | _ => none
def b1u (t : TypeId) : Option (Nat × TypeId) := match P.underlying t with
 | some (.array n e) => some (n, e)
 | _ => none
def mapOf (t : TypeId) : Option (TypeId × TypeId) := match P.underlying t with
 | some (.map k e) => some (k, e)
 | _ => none
def b1K (t : TypeId) : Option (Array Field) := match P.underlying t with
 | some (.struct fs) => some fs
 | _ => none
variable {P} in
theorem a4F {t e : TypeId} (h : sliceOf P t = some e) : P.underlying t = some (.slice e) := by
 unfold sliceOf at h
 split at h
 ·rename_i e' he; cases h; exact he
 ·cases h
variable {P} in
theorem b0W {t e : TypeId} {n : Nat} (h : b1u P t = some (n, e)) : P.underlying t = some (.array n e) := by
 unfold b1u at h
 split at h
 ·rename_i e' he; cases h; exact he
 ·cases h
variable {P} in
theorem a5f {t k e : TypeId} (h : mapOf P t = some (k, e)) : P.underlying t = some (.map k e) := by
 unfold mapOf at h
 split at h
 ·rename_i e' he; cases h; exact he
 ·cases h
variable {P} in
theorem b2X {t : TypeId} {fs : Array Field} (h : b1K P t = some fs) : P.underlying t = some (.struct fs) := by
 unfold b1K at h
 split at h
 ·rename_i e' he; cases h; exact he
 ·cases h
def isStr (t : TypeId) : Bool := match P.underlying t with
 | some .string => true
 | _ => false
variable {P} in
theorem b4z {t : TypeId} (h : isStr P t = true) : P.underlying t = some .string := by
 unfold isStr at h
 split at h
 ·assumption
 ·cases h
def b3J (t t2 : TypeId) (es : Nat) : Bool := match sliceOf P t, sliceOf P t2 with
 | some e, some _ => match P.info? e with
  | some i => match i.zero with
   | some zv => i.size == es && decide (i.bytes <= 16384) && decide (0 < i.bytes) && decide (0 < es) && zv.cells.size == es
   | none => false
  | none => false
 | _, _ => false
end
theorem b3X {S : Seat} {t t2 : TypeId} {es : Nat} (h : b3J S.P t t2 es = true) : Nonempty (AppTy S t t2 es) := by
 unfold b3J at h
 split at h
 ·rename_i e e2 h1 h2
  split at h
  ·rename_i i hi
   split at h
   ·rename_i zv hz
    simp only [Bool.and_eq_true, beq_iff_eq, decide_eq_true_eq] at h
    obtain ⟨⟨⟨⟨a, b⟩, c⟩, d⟩, f⟩ := h
    exact ⟨⟨e, e2, i, zv, a4F h1, a4F h2, hi, a, b, c, d, hz, f⟩⟩
   ·cases h
  ·cases h
 ·cases h
section
variable (S : Seat) (G : List Nat)
def placesOf (t : TypeId) : Option (Nat -> Option (Nat × Nat)) :=
 match S.P.underlying t with
 | some (.struct fs) => if fs.all fun x => (S.P.info? x.type).isSome then some fun i => fs[i]?.map fun x => (x.offset, S.P.cellsOf x.type) else none
 | some (.array _ e) => if (S.P.info? e).isSome then some fun i => some (i * S.P.cellsOf e, S.P.cellsOf e) else none
 | _ => none
def isTrue : Operand -> Bool
 | .const (.bool b) => b
 | _ => false
theorem b3f {v : Operand} (h : isTrue v = true) : v = .const (.bool true) := by
 unfold isTrue at h
 split at h
 ·subst h; rfl
 ·cases h
def mop : Op -> Go.Op -> Bool
 | .mv x, .move x' => mt S G x x'
 | .mv x, .assign x' => mt S G x x'
 | .pick c a b, .pick c' a' b' => mr S G c c' && mr S G a a' && mr S G b b'
 | .alloc _ z, .alloc t => tz S.P t z
 | .box _ x, .box _ x' => mt S G x x'
 | .build z ps, .build t ps' => tz S.P t z && mrs S G (ps.map (·.2.2)) (ps'.toList.map (·.2)) && (match placesOf S t with
  | some f => decide ((ps.map fun p => some (p.1, p.2.1)) = (ps'.toList.map fun p => f p.1))
  | none => false)
 | .bslice es n z ps, .buildSlice t n' ps' => (match sliceOf S.P t with
  | some e => szIs S.P e es && tz S.P e z && decide (n = n') && decide (n * es <= 2 ^ 24) && decide (0 < es) && decide (ps.map (·.1) = ps'.toList.map (·.1)) && mrs S G (ps.map (·.2)) (ps'.toList.map (·.2))
  | none => false)
 | .bslice es n z ps, .makeSlice t (.const (.int .i64 (.ofNat l))) (.const (.int .i64 (.ofNat c))) => (match sliceOf S.P t with
  | some e => (match S.P.info? e with
   | some i => i.size == es && tz S.P e z && ps.isEmpty && decide (n = l) && decide (n = c) && decide (n * es <= 2 ^ 24) && decide (0 < es) && decide (i.bytes * n <= 2 ^ 40)
   | none => false)
  | none => false)
 | .load n x, .load t x' => mr S G x x' && tsh S.P t n
 | .loadT x, .load t x' => mr S G x x' && tsh S.P t none
 | .store n x v, .store t x' v' => mr S G x x' && mt S G v v' && szIs S.P t n
 | .bin op x y, .binOp op' _ x' y' _ => decide (op = op') && mr S G x x' && mr S G y y'
 | .eqf neg ty x y, .binOp op' t x' y' _ => decide (op' = if neg then .neq else .eql) && mr S G x x' && mr S G y y' && a5A S.P t ty && (ty.agg || (!ty.agg && decide (ty.tags = [0]))) && !S.P.eqGuardType S.P.depth t
 | .isnil kd neg x, .binOp op' t x' (.const y) _ => decide (op' = if neg then .neq else .eql) && mr S G x x' && (match kd, y, S.P.underlying t with
  | 0, .slice none 0 0, some (.slice _) => true
  | 1, .nilFunc, some (.func _ _ _) => true
  | 2, .pointer none, some (.pointer _) => true
  | _, _, _ => false)
 | .un op x, .unOp op' _ x' => decide (op = op') && mr S G x x'
 | .conv k x, .convert s d x' => mr S G x x' && (match S.P.underlying d, S.P.underlying s with
  | some (.int k'), some (.int _) => decide (k = k')
  | _, _ => false)
 | .mkf id _ first cap, .makeFunc (.func f) first' cap' => S.fm id == f && mrs S G first first'.toList && mrs S G cap cap'.toList
 | .slice es x lo hi mx, .slice t x' lo' hi' mx' => mr S G x x' && mro S G lo lo' && mro S G hi hi' && mro S G mx mx' && (match sliceOf S.P t with
  | some e => szIs S.P e es
  | none => false)
 | .faddr off x, .fieldAddr t x' i => mr S G x x' && (match b1K S.P t with
  | some fs => (match fs[i]? with
   | some f => f.offset == off && (match S.P.info? f.type with | some i => i.size != 0 | none => false)
   | none => false)
  | none => false)
 | .field off n x, .field t x' i => mr S G x x' && (match b1K S.P t with
  | some fs => (match fs[i]? with
   | some f => f.offset == off && tsh S.P f.type n
   | none => false)
  | none => false)
 | .iaddr es x i, .indexAddr t x' i' => mr S G x x' && mr S G i i' && (match sliceOf S.P t with
  | some e => szIs S.P e es
  | none => false)
 | .iarr len es x i, .indexAddr t x' i' => mr S G x x' && mr S G i i' && (match b1u S.P t with
  | some (n, e) => n == len && szIs S.P e es
  | none => false)
 | .index len es n x i, .index t x' i' => mr S G x x' && mr S G i i' && (match b1u S.P t with
  | some (m, e) => m == len && szIs S.P e es && tsh S.P e n
  | none => false)
 | .istr x i, .index t x' i' => mr S G x x' && mr S G i i' && isStr S.P t
 | .mkset _ _, .makeMap _ none => true
 | .kset _ _, .makeMap _ none => true
 | .slook n m key, .lookup t m' key' false => mr S G m m' && mr S G key key' && (match mapOf S.P t with
  | some (k, e) => tzv S.P e (.sc (.bool false)) && a5A S.P k ⟨true, List.replicate n 1⟩
  | none => false)
 | .sadd n m key, .mapUpdate t m' key' v' => mr S G m m' && mr S G key key' && isTrue v' && (match mapOf S.P t with
  | some (k, _) => a5A S.P k ⟨true, List.replicate n 1⟩
  | none => false)
 | .sadd n m key, .insert t m' key' v' => mr S G m m' && mr S G key key' && isTrue v' && (match mapOf S.P t with
  | some (k, _) => a5A S.P k ⟨true, List.replicate n 1⟩
  | none => false)
 | .rng _ x, .range t x' => mr S G x x' && (match mapOf S.P t with
  | some _ => true
  | none => false)
 | .ext x i, .extract x' i' => mr S G x x' && i == i'
 | .nilchk x, .nilCheck x' => mr S G x x'
 | o, .call ⟨.builtin b, args, ts⟩ => (match o, b, args.toList, ts.toList with
  | .len k x, .len, [x'], [t] => mr S G x x' && (match k, S.P.underlying t with
   | 0, some .string => true
   | 1, some (.slice _) => true
   | 2, some (.map _ _) => true
   | _, _ => false)
  | .lenArr n, .len, [_], [t] => (match S.P.underlying t with
   | some (.array m _) => n == m
   | some (.pointer p) => (match S.P.underlying p with | some (.array m _) => n == m | _ => false)
   | _ => false)
  | .min x xs, .min, x' :: xs', _ => mr S G x x' && mrs S G xs xs'
  | .max x xs, .max, x' :: xs', _ => mr S G x x' && mrs S G xs xs'
  | .append es x y, .append, [x', y'], [t, t2] => mt S G x x' && mr S G y y' && b3J S.P t t2 es
  | .appendM _ es x y, .append, [x', y'], [t, t2] => mr S G x x' && mr S G y y' && b3J S.P t t2 es
  | _, _, _, _ => false)
 | .call _ f args, .call ⟨.value f', args', _⟩ => mr S G f f' && mrs S G args args'.toList
 | _, _ => false
end
end Go.Pm
namespace Go.Pm
section
variable {S : Seat} {G : List Nat}
theorem b5z {t : TypeId} {f : Nat -> Option (Nat × Nat)} (h : placesOf S t = some f) :
    (∃ fs, S.P.underlying t = some (.struct fs) /\ (∀ x ∈ fs, (S.P.info? x.type).isSome) /\ f = fun i => fs[i]?.map fun x => (x.offset, S.P.cellsOf x.type)) ∨
       (∃ len e, S.P.underlying t = some (.array len e) /\ (S.P.info? e).isSome /\ f = fun i => some (i * S.P.cellsOf e, S.P.cellsOf e)) := by
  unfold placesOf at h
  split at h
  · rename_i fs hu
    split at h
    · rename_i hall
      simp only [Option.some.injEq] at h
      exact .inl ⟨fs, hu, fun x hx => Array.all_eq_true_iff_forall_mem.1 hall x hx, h.symm⟩
    · cases h
  · rename_i n e hu
    split at h
    · rename_i hi
      simp only [Option.some.injEq] at h
      exact .inr ⟨n, e, hu, hi, h.symm⟩
    · cases h
  · cases h
theorem c3M {ty : KT} (h1 : ty.agg = false) (h2 : ty.tags = [0]) : ty = ⟨false, [0]⟩ := by
 cases ty
 simp_all
theorem b7U {o : Op} {o' : Go.Op} (h : mop S G o o' = true) : MOp S G o o' := by
 unfold mop at h
 split at h
 ·exact .mv _ _ (b2e h)
 ·exact .asg _ _ (b2e h)
 ·simp only [Bool.and_eq_true] at h
  exact .pick _ _ _ _ _ _ (a0H h.1.1) (a0H h.1.2) (a0H h.2)
 ·exact .alloc _ _ _ (b2w h)
 ·exact .box _ _ _ _ (b2e h)
 ·simp only [Bool.and_eq_true] at h
  obtain ⟨⟨h1, h2⟩, h3⟩ := h
  split at h3
  ·rename_i f hf
   exact .build _ _ _ _ (b2w h1) ⟨f, of_decide_eq_true h3, b5z hf⟩ (a6r h2)
  ·cases h3
 ·split at h
  ·rename_i e he
   simp only [Bool.and_eq_true, decide_eq_true_eq] at h
   obtain ⟨⟨⟨⟨⟨⟨h1, h2⟩, rfl⟩, h4⟩, h5⟩, h6⟩, h7⟩ := h
   exact .bslice _ _ _ _ _ _ e (a4F he) (a5w h1) (b2w h2) h4 h5 h6 (a6r h7)
  ·cases h
 ·rename_i es n z ps t l c
  split at h
  ·rename_i e he
   split at h
   ·rename_i i hi
    simp only [Bool.and_eq_true, decide_eq_true_eq, beq_iff_eq, List.isEmpty_iff] at h
    obtain ⟨⟨⟨⟨⟨⟨⟨h1, h2⟩, rfl⟩, rfl⟩, rfl⟩, h4⟩, h5⟩, h6⟩ := h
    exact .mkslice _ _ _ _ e i (a4F he) hi h1 (b2w h2) h4 h5 h6
   ·cases h
  ·cases h
 ·simp only [Bool.and_eq_true] at h
  exact .load _ _ _ _ (a0H h.1) (b0q h.2)
 ·simp only [Bool.and_eq_true] at h
  exact .loadT _ _ _ (a0H h.1) (b0q h.2)
 ·simp only [Bool.and_eq_true] at h
  exact .store _ _ _ _ _ _ (a0H h.1.1) (b2e h.1.2) (a5w h.2)
 ·simp only [Bool.and_eq_true, decide_eq_true_eq] at h
  obtain ⟨⟨rfl, h1⟩, h2⟩ := h
  exact .bin _ _ _ _ _ _ _ (a0H h1) (a0H h2)
 ·simp only [Bool.and_eq_true, decide_eq_true_eq, Bool.or_eq_true, Bool.not_eq_true'] at h
  obtain ⟨⟨⟨⟨⟨rfl, h1⟩, h2⟩, h3⟩, h4⟩, h5⟩ := h
  refine .eqf _ _ _ _ _ _ _ _ 20 (a0H h1) (a0H h2) (a4o h3) (by omega) ?_ h5
  rcases h4 with h4 | ⟨h4, h6⟩
  ·exact .inl h4
  ·exact .inr (c3M h4 h6)
 ·simp only [Bool.and_eq_true, decide_eq_true_eq] at h
  obtain ⟨⟨rfl, h1⟩, h2⟩ := h
  split at h2
  ·rename_i e hu; exact .isnil _ _ _ _ _ _ _ _ (a0H h1) hu (.inl ⟨rfl, rfl, _, rfl⟩)
  ·rename_i e1 e2 e3 hu; exact .isnil _ _ _ _ _ _ _ _ (a0H h1) hu (.inr (.inl ⟨rfl, rfl, _, _, _, rfl⟩))
  ·rename_i e hu; exact .isnil _ _ _ _ _ _ _ _ (a0H h1) hu (.inr (.inr ⟨rfl, rfl, _, rfl⟩))
  ·cases h2
 ·simp only [Bool.and_eq_true, decide_eq_true_eq] at h
  obtain ⟨rfl, h1⟩ := h
  exact .un _ _ _ _ (a0H h1)
 ·simp only [Bool.and_eq_true] at h
  obtain ⟨h1, h2⟩ := h
  split at h2
  ·rename_i k' k'' hd hs
   simp only [decide_eq_true_eq] at h2
   subst h2
   exact .conv _ _ _ _ _ _ (a0H h1) hd hs (by simp)
  ·cases h2
 ·simp only [Bool.and_eq_true, beq_iff_eq] at h
  obtain ⟨⟨rfl, h1⟩, h2⟩ := h
  rename_i id sh first cap first' cap'
  have := MOp.mkf (S := S) (G := G) id sh first cap first'.toList cap'.toList (a6r h1) (a6r h2)
  simpa using this
 ·simp only [Bool.and_eq_true] at h
  obtain ⟨⟨⟨⟨h1, h2⟩, h3⟩, h4⟩, h5⟩ := h
  split at h5
  ·rename_i e he; exact .slice _ _ _ _ _ _ _ _ _ _ e (a0H h1) (a7n h2) (a7n h3) (a7n h4) (a4F he) (a5w h5)
  ·cases h5
 ·simp only [Bool.and_eq_true] at h
  obtain ⟨h1, h2⟩ := h
  split at h2
  ·rename_i fs hfs
   split at h2
   ·rename_i f hf
    simp only [Bool.and_eq_true, beq_iff_eq] at h2
    obtain ⟨h3, h4⟩ := h2
    split at h4
    ·rename_i i hi; exact .faddr _ _ _ _ _ fs f (a0H h1) (b2X hfs) hf h3 ⟨i, hi, by simpa using h4⟩
    ·cases h4
   ·cases h2
  ·cases h2
 ·simp only [Bool.and_eq_true] at h
  obtain ⟨h1, h2⟩ := h
  split at h2
  ·rename_i fs hfs
   split at h2
   ·rename_i f hf
    simp only [Bool.and_eq_true, beq_iff_eq] at h2
    exact .field _ _ _ _ _ _ fs f (a0H h1) (b2X hfs) hf h2.1 (b0q h2.2)
   ·cases h2
  ·cases h2
 ·simp only [Bool.and_eq_true] at h
  obtain ⟨⟨h1, h2⟩, h3⟩ := h
  split at h3
  ·rename_i e he; exact .iaddr _ _ _ _ _ _ e (a0H h1) (a0H h2) (a4F he) (a5w h3)
  ·cases h3
 ·simp only [Bool.and_eq_true] at h
  obtain ⟨⟨h1, h2⟩, h3⟩ := h
  split at h3
  ·rename_i n e he
   simp only [Bool.and_eq_true, beq_iff_eq] at h3
   obtain ⟨rfl, h4⟩ := h3
   exact .iarr _ _ _ _ _ _ _ e (a0H h1) (a0H h2) (b0W he) (a5w h4)
  ·cases h3
 ·simp only [Bool.and_eq_true] at h
  obtain ⟨⟨h1, h2⟩, h3⟩ := h
  split at h3
  ·rename_i n e he
   simp only [Bool.and_eq_true, beq_iff_eq] at h3
   obtain ⟨⟨rfl, h4⟩, h5⟩ := h3
   exact .index _ _ _ _ _ _ _ _ e (a0H h1) (a0H h2) (b0W he) (a5w h4) (b0q h5)
  ·cases h3
 ·simp only [Bool.and_eq_true] at h
  exact .istr _ _ _ _ _ (a0H h.1.1) (a0H h.1.2) (b4z h.2)
 ·exact .mkset _ _ _
 ·exact .kset _ _ _
 ·simp only [Bool.and_eq_true] at h
  obtain ⟨⟨h1, h2⟩, h3⟩ := h
  split at h3
  ·rename_i k e he
   simp only [Bool.and_eq_true] at h3
   exact .slook _ _ _ _ _ _ k e 20 (a0H h1) (a0H h2) (a5f he) (b5d h3.1) (a4o h3.2) (by omega)
  ·cases h3
 ·simp only [Bool.and_eq_true] at h
  obtain ⟨⟨⟨h1, h2⟩, h3⟩, h4⟩ := h
  obtain rfl := b3f h3
  split at h4
  ·rename_i k e he; exact .sadd _ _ _ _ _ _ k e 20 (a0H h1) (a0H h2) (a5f he) (a4o h4) (by omega)
  ·cases h4
 ·simp only [Bool.and_eq_true] at h
  obtain ⟨⟨⟨h1, h2⟩, h3⟩, h4⟩ := h
  obtain rfl := b3f h3
  split at h4
  ·rename_i k e he; exact .sins _ _ _ _ _ _ k e 20 (a0H h1) (a0H h2) (a5f he) (a4o h4) (by omega)
  ·cases h4
 ·simp only [Bool.and_eq_true] at h
  obtain ⟨h1, h2⟩ := h
  split at h2
  ·rename_i q he; exact .rng _ _ _ _ q.1 q.2 (a0H h1) (a5f he)
  ·cases h2
 ·simp only [Bool.and_eq_true, beq_iff_eq] at h
  obtain ⟨h1, rfl⟩ := h
  exact .ext _ _ _ (a0H h1)
 ·exact .nilchk _ _ (a0H h)
 ·rename_i b args ts
  split at h
  ·rename_i k x x' t ha hts
   have ha' : args = #[x'] := Array.ext' ha
   have ht' : ts = #[t] := Array.ext' hts
   subst ha'; subst ht'
   simp only [Bool.and_eq_true] at h
   obtain ⟨h1, h2⟩ := h
   split at h2
   ·rename_i hu; exact .len _ _ _ _ (a0H h1) (.inl ⟨rfl, hu⟩)
   ·rename_i hu; exact .len _ _ _ _ (a0H h1) (.inr (.inl ⟨rfl, _, hu⟩))
   ·rename_i hu; exact .len _ _ _ _ (a0H h1) (.inr (.inr ⟨rfl, _, _, hu⟩))
   ·cases h2
  ·rename_i n x' t ha hts
   have ha' : args = #[x'] := Array.ext' ha
   have ht' : ts = #[t] := Array.ext' hts
   subst ha'; subst ht'
   split at h
   ·rename_i m e hu
    have : n = m := by simpa using h
    subst this
    exact .lenArr _ _ _ (.inl ⟨e, hu⟩)
   ·rename_i p hu
    split at h
    ·rename_i m e hp
     have : n = m := by simpa using h
     subst this
     exact .lenArr _ _ _ (.inr ⟨p, e, hu, hp⟩)
    ·cases h
   ·cases h
  ·rename_i x xs x' xs' ha
   have ha' : args = (x' :: xs').toArray := Array.ext' (by simpa using ha)
   subst ha'
   simp only [Bool.and_eq_true] at h
   exact .min _ _ _ _ _ (a0H h.1) (a6r h.2)
  ·rename_i x xs x' xs' ha
   have ha' : args = (x' :: xs').toArray := Array.ext' (by simpa using ha)
   subst ha'
   simp only [Bool.and_eq_true] at h
   exact .max _ _ _ _ _ (a0H h.1) (a6r h.2)
  ·rename_i es x y x' y' t t2 ha hts
   have ha' : args = #[x', y'] := Array.ext' ha
   have ht' : ts = #[t, t2] := Array.ext' hts
   subst ha'; subst ht'
   simp only [Bool.and_eq_true] at h
   obtain ⟨⟨h1, h2⟩, h3⟩ := h
   obtain ⟨T⟩ := b3X h3
   exact .append _ _ _ _ _ _ _ (b2e h1) (a0H h2) T
  ·rename_i a0 es x y x' y' t t2 ha hts
   have ha' : args = #[x', y'] := Array.ext' ha
   have ht' : ts = #[t, t2] := Array.ext' hts
   subst ha'; subst ht'
   simp only [Bool.and_eq_true] at h
   obtain ⟨⟨h1, h2⟩, h3⟩ := h
   obtain ⟨T⟩ := b3X h3
   exact .appendM _ _ _ _ _ _ _ _ (a0H h1) (a0H h2) T
  ·cases h
 ·rename_i p f args f' args' ts
  simp only [Bool.and_eq_true] at h
  have := MOp.call (S := S) (G := G) p f args f' args'.toList ts (a0H h.1) (a6r h.2)
  simpa using this
 ·cases h
variable (S) (G) in
def mopL : Op -> Go.Op -> Bool
 | .late o, o' => o.plain && mop S G o o'
 | o, o' => mop S G o o'
theorem c1b {o : Op} {o' : Go.Op} (h : mopL S G o o' = true) : MOp S G o o' := by
 unfold mopL at h
 split at h
 ·simp only [Bool.and_eq_true] at h
  exact .late _ _ h.1 (b7U h.2)
 ·exact b7U h
end
end Go.Pm
namespace Go.Pm
section
variable (S : Seat) (G : List Nat) (nt : Nat)
def b6G (ops : Array Go.Oper) (o : Oper) (o' : Go.Oper) : Bool :=
  decide (o'.dst = o.dst) && (match o.dst with | some d => decide (d < nt) | none => true) && mopL S G o.op o'.op &&
  (match o.guard, o'.guard with
   | none, none => true
   | some (s, b), some (j, b') => b == b' && decide ((ops[j]?).bind (·.dst) = some s)
   | _, _ => false)
def a8O (ops : Array Go.Oper) : List Oper -> List Go.Oper -> Bool
 | [], [] => true
 | o :: os, o' :: os' => b6G S G nt ops o o' && a8O ops os os'
 | _, _ => false
def ancs : List Go.Oper -> List (List Nat) -> List (List Nat)
 | [], acc => acc
 | o :: os, acc => ancs os (acc ++ [(binds o ++ (binds o).flatMap fun k => acc.getD k []).eraseDups])
def b4g (ops : List Oper) (ops' : List Go.Oper) : Bool :=
 let an := ancs ops' []
 (List.range ops.length).all (fun i => match ops[i]? with | some o => o.ix == i | none => true) &&
 (List.range ops'.length).all (fun i => match ops'[i]? with
  | some o => (binds o).all (fun j => decide (j < i)) && (an.getD i []).all fun j => (binds o).contains j || (binds o).any fun k => (an.getD k []).contains j
  | none => true) &&
 (List.range ops.length).all (fun i => (List.range i).all fun j => (an.getD i []).contains j || (match ops[i]?, ops[j]? with
  | some a, some b => b0h a b
  | _, _ => true))
def b4x (it : Nat) (o : Go.Oper) : Bool := (match o.op with | .next (.tmp i) false => i == it | _ => false) && o.guard.isNone
def b2N (it : Nat) (o : Go.Oper) : Bool := (match o.op with | .entry (.tmp i) => i == it | _ => false) && o.guard.isNone
def b1R (i : Nat) (o : Go.Oper) : Bool := (match o.op with | .extract (.tmp j) 0 => j == i | _ => false) && o.guard.isNone
def b1o (keep : List Nat) (it dst n : Nat) (id : Nat) : Code -> Bool
  | .loop (.seq (.region _ ops3 false) (.seq (.cond (.tmp m) .skip (.exit id')) (.block _ (.seq (.region _ ops4 false) (.region _ ops5 false))))) =>
    (match ops3.toList, ops4.toList, ops5.toList with
     | [o0, o1], [a0, a1, a2, a3], [b0, b1, b2] =>
       (match o0.dst, o1.dst, a0.dst, a1.dst, a2.dst, b0.dst, b1.dst with
        | some nxt, some m', some pr, some ks, some bx, some u, some kv =>
          id' == id && m' == m && b4x it o0 && b1R nxt o1 && b2N it a0 && b1R pr a1 &&
          a8O S G nt #[a0, a1, a2, a3] [{ dst := some bx, op := .alloc 0 (List.replicate n (.int .i64 0)) }, { op := .store n (.t bx) (.t ks) }] [a2, a3] &&
          a8O S G nt #[b0, b1, b2] [{ dst := some u, op := .mv (.t dst) }, { dst := some kv, op := .load (some n) (.t bx) }, { op := .sadd n (.t u) (.t kv) }] [b0, b1, b2] &&
          C.a0v (List.replicate n (.int .i64 0)) && decide (0 < n) && decide ((it :: dst :: [nxt, m, pr, ks, bx, u, kv]).Nodup) && decide (nxt < nt /\ m < nt /\ pr < nt /\ ks < nt) &&
          keep.all (fun x => decide (x ∉ [nxt, m, pr, ks, bx, u, kv]))
        | _, _, _, _, _, _, _ => false)
     | _, _, _ => false)
  | _ => false
def a4m : AC -> AC
 | .frz _ a => a4m a
 | .frzc _ a => a4m a
 | a => a
def mc : Bool -> Code -> AC -> Bool
 | r, .scope y, a => mc r y a
 | r, .seq (.label _) y, a => mc r y a
 | r, .seq x y, a => (match a4m a with
  | .seq a b => mc r x a && mc r y b
  | _ => false)
 | _, .skip, a => (match a4m a with | .skip => true | _ => false)
 | _, .label _, a => (match a4m a with | .skip => true | _ => false)
 | r, .cond c x y, a => (match a4m a with
  | .cond c' a b => mr S G c' c && mc r x a && mc r y b
  | _ => false)
 | r, .block id x, a => (match a4m a with
  | .block id' a => id == id' && mc r x a
  | .union keep it dst n => b1o S G nt keep it dst n id x
  | _ => false)
 | r, .loop x, a => (match a4m a with
  | .loop _ a => mc r x a
  | _ => false)
 | _, .exit id, a => (match a4m a with | .exit id' => id == id' | _ => false)
 | _, .ret, a => (match a4m a with | .ret => true | _ => false)
 | _, .region _ ops' d, a => (match a4m a with
  | .region _ ops d' _ => d == d' && a8O S G nt ops' ops ops'.toList && (!d || b4g ops ops'.toList)
  | .stuck => true
  | _ => false)
 | r, .rangeFunc f' ps' x y, a => (match a4m a with
  | .rfunc f ps a b => !r && mr S G f f' && decide (ps = ps'.toList) && ps.all (fun p => decide (p < nt)) && mc true x a && mc true y b
  | _ => false)
 | _, _, _ => false
def mres (P : Program) : List (Nat × Option (Option Nat)) -> List ResultVar -> Bool
 | [], [] => true
 | (t, none) :: rs, .tmp t' :: rs' => t == t' && mres P rs rs'
 | (t, some n) :: rs, .cell t' ty :: rs' => t == t' && tsh P ty n && mres P rs rs'
 | _, _ => false
def c0f (f : Fn) (fn : Func) : Bool :=
 (match fn.body with | some c => mc S G f.nt false c f.body | none => false) && fn.ntmps == f.nt && decide (f.np <= f.nt) && fn.name != "runtime.NumGoroutine" && mres S.P f.res fn.results.toList
end
section
variable {S : Seat} {G : List Nat} {nt : Nat}
theorem b9k {ops : Array Go.Oper} {o : Oper} {o' : Go.Oper} (h : b6G S G nt ops o o' = true) : MOper S G nt ops o o' := by
 simp only [b6G, Bool.and_eq_true, decide_eq_true_eq] at h
 obtain ⟨⟨⟨h1, h2⟩, h3⟩, h4⟩ := h
 refine ⟨h1, fun d hd => by rw [hd] at h2; exact of_decide_eq_true h2, c1b h3, ?_⟩
 cases hg : o.guard with
 | none =>
  cases hg' : o'.guard with
  | none => trivial
  | some q => rw [hg, hg'] at h4; cases h4
 | some p =>
  obtain ⟨s, b⟩ := p
  cases hg' : o'.guard with
  | none => rw [hg, hg'] at h4; cases h4
  | some q =>
   obtain ⟨j, b'⟩ := q
   rw [hg, hg'] at h4
   simp only [Bool.and_eq_true, beq_iff_eq, decide_eq_true_eq] at h4
   exact h4
theorem a7m {ops : Array Go.Oper} : ∀ {os : List Oper} {os' : List Go.Oper}, a8O S G nt ops os os' = true -> a4M S G nt ops os os'
 | [], [], _ => trivial
 | o :: os, o' :: os', h => by
  simp only [a8O, Bool.and_eq_true] at h
  exact ⟨b9k h.1, a7m h.2⟩
 | [], _ :: _, h => by cases h
 | _ :: _, [], h => by cases h
theorem b7r {ops : List Oper} {ops' : List Go.Oper} (h : b4g ops ops' = true) : DrawOk ops ops' := by
 simp only [b4g, Bool.and_eq_true, List.all_eq_true, List.mem_range] at h
 obtain ⟨⟨h1, h2⟩, h3⟩ := h
 have g2 : ∀ (i : Nat) o, ops'[i]? = some o -> (∀ j ∈ binds o, j < i) /\ ∀ j ∈ (ancs ops' []).getD i [], j ∈ binds o \/ ∃ k ∈ binds o, j ∈ (ancs ops' []).getD k [] := fun i o hi => by
  have := h2 i (List.getElem?_eq_some_iff.1 hi).1
  rw [hi] at this
  simp only [Bool.and_eq_true, List.all_eq_true, decide_eq_true_eq, Bool.or_eq_true, List.contains_iff_mem, List.any_eq_true] at this
  exact this
 refine ⟨fun i o hi => ?_, fun i o hi => (g2 i o hi).1, fun i => (ancs ops' []).getD i [], fun i o hi => (g2 i o hi).2, fun i j a b hji ha hb hn => ?_⟩
 ·have := h1 i (List.getElem?_eq_some_iff.1 hi).1
  rw [hi] at this
  simpa using this
 ·have := h3 i (List.getElem?_eq_some_iff.1 ha).1 j hji
  rw [ha, hb] at this
  simp only [Bool.or_eq_true, List.contains_iff_mem] at this
  exact this.resolve_left hn
theorem a2N {r : Bool} {y : Code} : ∀ {a : AC}, MC S G nt r (a4m a) y -> MC S G nt r a y
 | .frz i a, h => .frz _ i a y (a2N (a := a) h)
 | .frzc i a, h => .frzc _ i a y (a2N (a := a) h)
 | .skip, h | .stuck, h | .union _ _ _ _, h | .region _ _ _ _, h | .seq _ _, h | .cond _ _ _, h | .block _ _, h | .loop _ _, h | .rfunc _ _ _ _, h | .exit _, h | .scope _, h | .ret, h => h
theorem b7E {it : Nat} {o : Go.Oper} (h : b4x it o = true) : o.op = .next (.tmp it) false /\ o.guard = none := by
 simp only [b4x, Bool.and_eq_true, Option.isNone_iff_eq_none] at h
 obtain ⟨h1, h2⟩ := h
 split at h1
 ·rename_i i ho; rw [ho, beq_iff_eq.1 h1]; exact ⟨rfl, h2⟩
 ·cases h1
theorem b6v {it : Nat} {o : Go.Oper} (h : b2N it o = true) : o.op = .entry (.tmp it) /\ o.guard = none := by
 simp only [b2N, Bool.and_eq_true, Option.isNone_iff_eq_none] at h
 obtain ⟨h1, h2⟩ := h
 split at h1
 ·rename_i i ho; rw [ho, beq_iff_eq.1 h1]; exact ⟨rfl, h2⟩
 ·cases h1
theorem b3e {it : Nat} {o : Go.Oper} (h : b1R it o = true) : o.op = .extract (.tmp it) 0 /\ o.guard = none := by
 simp only [b1R, Bool.and_eq_true, Option.isNone_iff_eq_none] at h
 obtain ⟨h1, h2⟩ := h
 split at h1
 ·rename_i i ho; rw [ho, beq_iff_eq.1 h1]; exact ⟨rfl, h2⟩
 ·cases h1
theorem b0o {ops : Array Go.Oper} {l : List Go.Oper} (h : ops.toList = l) : ops = l.toArray := by
 subst h; simp
theorem b5F {r : Bool} {keep : List Nat} {it dst n id : Nat} {x : Code} (h : b1o S G nt keep it dst n id x = true) : MC S G nt r (.union keep it dst n) (.block id x) := by
 unfold b1o at h
 split at h
 ·split at h
  ·rename_i e3 e4 e5
   split at h
   ·rename_i d0 d1 d2 d3 d4 d5 d6
    simp only [Bool.and_eq_true, beq_iff_eq, decide_eq_true_eq, List.all_eq_true] at h
    obtain ⟨⟨⟨⟨⟨⟨⟨⟨⟨⟨⟨⟨rfl, rfl⟩, h0⟩, h1⟩, h2⟩, h3⟩, h4⟩, h5⟩, hp⟩, hn⟩, nd⟩, lt⟩, kp⟩ := h
    rw [b0o e3, b0o e4, b0o e5]
    obtain ⟨p0, g0⟩ := b7E h0
    obtain ⟨p1, g1⟩ := b3e h1
    obtain ⟨p2, g2⟩ := b6v h2
    obtain ⟨p3, g3⟩ := b3e h3
    exact .union r keep it dst n _ _ _ _ _ _ _ _ _ _ _ _ (List.replicate n (.int .i64 0)) _ _ _ _ _ _ _ _ _
     ⟨⟨p0, d0, g0⟩, ⟨p1, d1, g1⟩, ⟨p2, d2, g2⟩, ⟨p3, d3, g3⟩, a7m h4, a7m h5, by simp, hp, hn, nd, lt, kp⟩
   ·cases h
  ·cases h
 ·cases h
theorem a6q : ∀ (y : Code) {r : Bool} {a : AC}, mc S G nt r y a = true -> MC S G nt r a y
 | .scope y, r, a, h => .scope _ _ _ (a6q y (by simpa only [mc] using h))
 | .seq (.label l) y, r, a, h => .seqLabel _ l _ _ (a6q y (by simpa only [mc] using h))
 | .skip, r, a, h => by
  simp only [mc] at h
  apply a2N
  split at h
  ·rename_i h1; rw [h1]; exact .skip _
  ·cases h
 | .label l, r, a, h => by
  simp only [mc] at h
  apply a2N
  split at h
  ·rename_i h1; rw [h1]; exact .label _ _
  ·cases h
 | .cond c x y, r, a, h => by
  simp only [mc] at h
  apply a2N
  split at h
  ·rename_i h1
   simp only [Bool.and_eq_true] at h
   rw [h1]; exact .cond _ _ _ _ _ _ _ (a0H h.1.1) (a6q x h.1.2) (a6q y h.2)
  ·cases h
 | .block id x, r, a, h => by
  simp only [mc] at h
  apply a2N
  split at h
  ·rename_i h1
   simp only [Bool.and_eq_true, beq_iff_eq] at h
   obtain ⟨rfl, h2⟩ := h
   rw [h1]; exact .block _ _ _ _ (a6q x h2)
  ·rename_i h1
   rw [h1]; exact b5F h
  ·cases h
 | .loop x, r, a, h => by
  simp only [mc] at h
  apply a2N
  split at h
  ·rename_i h1
   rw [h1]; exact .loop _ _ _ _ (a6q x h)
  ·cases h
 | .exit id, r, a, h => by
  simp only [mc] at h
  apply a2N
  split at h
  ·rename_i h1
   have := beq_iff_eq.1 h
   subst this
   rw [h1]; exact .exit _ _
  ·cases h
 | .ret, r, a, h => by
  simp only [mc] at h
  apply a2N
  split at h
  ·rename_i h1; rw [h1]; exact .ret _
  ·cases h
 | .region id ops' d, r, a, h => by
  simp only [mc] at h
  apply a2N
  split at h
  ·rename_i h1
   simp only [Bool.and_eq_true, beq_iff_eq, Bool.or_eq_true, Bool.not_eq_true'] at h
   obtain ⟨⟨rfl, h2⟩, h3⟩ := h
   rw [h1]
   cases d with
   | false => exact .region _ _ _ _ _ _ (a7m h2)
   | true => exact .draw _ _ _ _ _ _ (a7m h2) (b7r (h3.resolve_left (by simp)))
  ·rename_i h1
   rw [h1]; exact .stuck _ _
  ·cases h
 | .rangeFunc f' ps' x y, r, a, h => by
  simp only [mc] at h
  apply a2N
  split at h
  ·rename_i h1
   simp only [Bool.and_eq_true, decide_eq_true_eq, Bool.not_eq_true', List.all_eq_true] at h
   obtain ⟨⟨⟨⟨⟨rfl, h2⟩, rfl⟩, h4⟩, h5⟩, h6⟩ := h
   rw [h1]
   have := MC.rfunc (S := S) (G := G) (nt := nt) _ f' ps'.toList _ _ x y (a0H h2) (a6q x h5) (a6q y h6) h4
   simpa using this
  ·cases h
 | .goto l, r, a, h => by simp [mc] at h
 | .refuse w, r, a, h => by simp [mc] at h
 | .seq .skip y, r, a, h | .seq (.region _ _ _) y, r, a, h | .seq (.seq _ _) y, r, a, h | .seq (.cond _ _ _) y, r, a, h | .seq (.block _ _) y, r, a, h | .seq (.loop _) y, r, a, h | .seq (.rangeFunc _ _ _ _) y, r, a, h | .seq (.exit _) y, r, a, h
 | .seq (.scope _) y, r, a, h | .seq (.goto _) y, r, a, h | .seq .ret y, r, a, h | .seq (.refuse _) y, r, a, h => by
  unfold mc at h
  apply a2N
  split at h
  ·rename_i h1
   simp only [Bool.and_eq_true] at h
   rw [h1]; exact .seq _ _ _ _ _ (a6q _ h.1) (a6q y h.2)
  ·cases h
theorem b2S {P : Program} : ∀ {rs : List (Nat × Option (Option Nat))} {rs' : List ResultVar}, mres P rs rs' = true -> MRes P rs rs'
 | [], [], _ => trivial
 | (t, none) :: rs, .tmp t' :: rs', h => by
  simp only [mres, Bool.and_eq_true, beq_iff_eq] at h
  exact ⟨h.1, b2S h.2⟩
 | (t, some n) :: rs, .cell t' ty :: rs', h => by
  simp only [mres, Bool.and_eq_true, beq_iff_eq] at h
  exact ⟨h.1.1, b0q h.1.2, b2S h.2⟩
 | [], _ :: _, h => by cases h
 | (_, none) :: _, [], h => by cases h
 | (_, some _) :: _, [], h => by cases h
 | (_, none) :: _, .cell _ _ :: _, h => by cases h
 | (_, some _) :: _, .tmp _ :: _, h => by cases h
theorem a0w {id : Nat} {f : Fn} {fn : Func} (hf : S.P.funcs[S.fm id]? = some fn) (h : c0f S G f fn = true) : FnOk S G id f := by
 simp only [c0f, Bool.and_eq_true, beq_iff_eq, decide_eq_true_eq, bne_iff_ne, ne_eq] at h
 obtain ⟨⟨⟨⟨h1, h2⟩, h3⟩, h4⟩, h5⟩ := h
 split at h1
 ·rename_i c hc
  exact ⟨fn, c, hf, hc, h4, h2, a6q c h1, h3, b2S h5⟩
 ·cases h1
end
end Go.Pm
