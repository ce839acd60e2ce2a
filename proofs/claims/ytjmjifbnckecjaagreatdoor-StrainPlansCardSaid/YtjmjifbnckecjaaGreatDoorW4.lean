/- The plain machine, part 4. -/
import Derived.Test.YtjmjifbnckecjaaGreatDoorW3
import Derived.Handed
import Derived.ChangeReads
import Derived.ChangeArms
import Derived.OpenShut
import Derived.ChangeSame
import Derived.ChangeShapes
import Derived.ChangeOld
import Derived.ChangeAt
import Derived.ChangeBook
import Derived.ChangeStays
import Derived.RowKit
import Derived.LaidMore
import Derived.LaidSub
import Derived.Stop.Joined
set_option linter.all false
set_option maxRecDepth 100000
namespace Go.Pm
open Go.ChangeShapes Go.WideShapes Go.ChangeAt Go.RowKit
inductive T where
 | int (k : IntKind)
 | bool
 | str
 | sl (es : Nat) (e : T)
 | st (ts : List T)
mutual
def T.size : T -> Nat
 | .st ts => T.a6t ts
 | _ => 1
def T.a6t : List T -> Nat
 | [] => 0
 | t :: ts => T.size t + T.a6t ts
end
mutual
def T.flat : T -> Bool
 | .sl _ _ => false
 | .st ts => T.b0x ts
 | _ => true
def T.b0x : List T -> Bool
 | [] => true
 | t :: ts => T.flat t && T.b0x ts
end
mutual
def T.has : T -> List C -> Prop
 | .int k, cs => ∃ n, cs = [.int k n] /\ (Lit.int k n).wf = true
 | .bool, cs => ∃ b, cs = [.bool b]
 | .str, cs => ∃ s, cs = [.str s]
 | .sl es e, cs => cs = [.sl .nil es []] \/ ∃ k l, cs = [.sl k es l] /\ k ≠ .nil /\ l.length <= maxLen /\ ∀ x ∈ l, T.has e x
 | .st ts, cs => T.hasL ts cs
def T.hasL : List T -> List C -> Prop
 | [], cs => cs = []
 | t :: ts, cs => ∃ a b, cs = a ++ b /\ T.has t a /\ T.hasL ts b
end
def T.hasV (t : T) (v : V) : Prop :=
 match t with
 | .st ts => ∃ cl, v = .agg cl /\ T.hasL ts cl
 | t => ∃ c, v = .sc c /\ T.has t [c]
def a6Z : List T -> List V -> Prop
 | [], vs => vs = []
 | t :: ts, vs => ∃ v r, vs = v :: r /\ t.hasV v /\ a6Z ts r
mutual
theorem b5O : ∀ (t : T) (cs : List C), t.has cs -> cs.length = t.size
 | .int k, cs, h => by simp only [T.has] at h; obtain ⟨n, rfl, _⟩ := h; rfl
 | .bool, cs, h => by simp only [T.has] at h; obtain ⟨n, rfl⟩ := h; rfl
 | .str, cs, h => by simp only [T.has] at h; obtain ⟨n, rfl⟩ := h; rfl
 | .sl es e, cs, h => by simp only [T.has] at h; rcases h with rfl | ⟨k, l, rfl, _⟩ <;> rfl
 | .st ts, cs, h => by simp only [T.has] at h; simp only [T.size]; exact b4t ts cs h
theorem b4t : ∀ (ts : List T) (cs : List C), T.hasL ts cs -> cs.length = T.a6t ts
 | [], cs, h => by simp only [T.hasL] at h; subst h; rfl
 | t :: ts, cs, h => by
  simp only [T.hasL] at h
  obtain ⟨a, b, rfl, ha, hb⟩ := h
  rw [List.length_append, b5O t a ha, b4t ts b hb]; rfl
end
theorem b4P (a b : List C) : C.a0v (a ++ b) = (C.a0v a && C.a0v b) := by
 induction a with
 | nil => simp [C.a0v]
 | cons x xs ih => simp [C.a0v, ih, Bool.and_assoc]
mutual
theorem b4u : ∀ (t : T) (cs : List C), t.has cs -> C.a0v cs = true
 | .int k, cs, h => by simp only [T.has] at h; obtain ⟨n, rfl, _⟩ := h; rfl
 | .bool, cs, h => by simp only [T.has] at h; obtain ⟨n, rfl⟩ := h; rfl
 | .str, cs, h => by simp only [T.has] at h; obtain ⟨n, rfl⟩ := h; rfl
 | .sl es e, cs, h => by simp only [T.has] at h; rcases h with rfl | ⟨k, l, rfl, _⟩ <;> rfl
 | .st ts, cs, h => by simp only [T.has] at h; exact b3c ts cs h
theorem b3c : ∀ (ts : List T) (cs : List C), T.hasL ts cs -> C.a0v cs = true
 | [], cs, h => by simp only [T.hasL] at h; subst h; rfl
 | t :: ts, cs, h => by
  simp only [T.hasL] at h
  obtain ⟨a, b, rfl, ha, hb⟩ := h
  rw [b4P, b4u t a ha, b3c ts b hb]; rfl
end
section
variable (P : Program)
def a2V (f : TypeId -> T -> Bool) : Nat -> List Field -> List T -> Bool
 | _, [], [] => true
 | off, x :: xs, t :: ts => x.offset == off && P.cellsOf x.type == t.size && f x.type t && a2V f (off + t.size) xs ts
 | _, _, _ => false
def tyIs : Nat -> TypeId -> T -> Bool
 | 0, _, _ => false
 | d + 1, t, sh => P.cellsOf t == sh.size && (match P.underlying t, sh with
  | some (.int k), .int k' => decide (k = k')
  | some .bool, .bool => true
  | some .string, .str => true
  | some (.slice e), .sl es e' => P.cellsOf e == es && e'.size == es && decide (0 < es) && e'.flat && tyIs d e e'
  | some (.struct fs), .st ts => a2V P (tyIs d) 0 fs.toList ts
  | some (.array n e), .st ts => ts.length == n && ts.all fun x => P.cellsOf e == x.size && tyIs d e x
  | _, _ => false)
def a6V (d : Nat) : List TypeId -> List T -> Bool
 | [], [] => true
 | t :: ts, x :: xs => tyIs P d t x && a6V d ts xs
 | _, _ => false
end
def Cls (S : Seat) (g : Gh) (cl : List C) (cs : List Value) : Prop := cl.length = cs.length /\ ∀ (j : Nat) c v, cl[j]? = some c -> cs[j]? = some v -> RC S g c v
theorem Cls.append {S : Seat} {g : Gh} {a b : List C} {x y : List Value} (h : Cls S g a x) (k : Cls S g b y) : Cls S g (a ++ b) (x ++ y) := by
 refine ⟨by simp [h.1, k.1], fun j c v hc hv => ?_⟩
 by_cases hj : j < a.length
 ·rw [List.getElem?_append_left hj] at hc
  rw [List.getElem?_append_left (by rw [← h.1]; exact hj)] at hv
  exact h.2 j c v hc hv
 ·rw [List.getElem?_append_right (by omega)] at hc
  rw [List.getElem?_append_right (by rw [← h.1]; omega), ← h.1] at hv
  exact k.2 _ c v hc hv
theorem Cls.one {S : Seat} {g : Gh} {c : C} {v : Value} (h : RC S g c v) : Cls S g [c] [v] :=
 ⟨rfl, fun j c' v' a b => by
  rcases j with _ | j
  ·simp at a b; subst a; subst b; exact h
  ·simp at a⟩
section
variable {H : Type} {enc : TypeId × Value -> H} {S : Seat} {g : Gh} {w : World} {base : Nat} {sp : Nat -> Bool} {held : Bool}
def b0v (cs : List Value) : Prop := ∀ (j : Nat) (a : Addr) n c, cs[j]? = some (.slice (some a) n c) -> a.spot = none
theorem b0I {d : Nat} (ih : ∀ (t : TypeId) (sh : T) (fuel : Nat) (cs : List Value) x, tyIs S.P d t sh = true -> DataW.trod enc S.P w base sp held fuel t cs = some x -> (sh.flat = false -> b0v cs) -> ∃ cl, sh.has cl /\ Cls S g cl cs) {fuel : Nat} {cs : List Value} :
 ∀ (fs : List Field) (ts : List T) (off : Nat), a2V S.P (tyIs S.P d) off fs ts = true -> cs.length = off + T.a6t ts -> (T.b0x ts = false -> b0v cs) →
  (∀ f ∈ fs, ∃ x, DataW.trod enc S.P w base sp held fuel f.type ((cs.drop f.offset).take (S.P.cellsOf f.type)) = some x) -> ∃ cl, T.hasL ts cl /\ Cls S g cl (cs.drop off)
 | [], [], off, _, hl, _, _ => ⟨[], rfl, by simp only [T.a6t, Nat.add_zero] at hl; simp [← hl], fun j c v a => by simp at a⟩
 | f :: fs, t :: ts, off, h, hl, hs, hx => by
  simp only [a2V, Bool.and_eq_true, beq_iff_eq] at h
  obtain ⟨⟨⟨h1, h2⟩, h3⟩, h4⟩ := h
  obtain ⟨x, hx1⟩ := hx f (by simp)
  rw [h1, h2] at hx1
  simp only [T.a6t] at hl
  simp only [T.b0x, Bool.and_eq_false_iff] at hs
  obtain ⟨a, ha, hca⟩ := ih f.type t fuel _ x h3 hx1 (fun hf j ad n c hj => by
   rw [List.getElem?_take] at hj
   split at hj
   ·rw [List.getElem?_drop] at hj; exact hs (.inl hf) _ ad n c hj
   ·cases hj)
  obtain ⟨b, hb, hcb⟩ := b0I ih fs ts (off + t.size) h4 (by omega) (fun hf => hs (.inr hf)) (fun y hy => hx y (by simp [hy]))
  refine ⟨a ++ b, by simp only [T.hasL]; exact ⟨a, b, rfl, ha, hb⟩, ?_⟩
  have := hca.append hcb
  rwa [← List.drop_drop, List.take_append_drop] at this
 | [], _ :: _, _, h, _, _, _ => by simp [a2V] at h
 | _ :: _, [], _, h, _, _, _ => by simp [a2V] at h
theorem b1D {d : Nat} {e : TypeId} (ih : ∀ (t : TypeId) (sh : T) (fuel : Nat) (cs : List Value) x, tyIs S.P d t sh = true -> DataW.trod enc S.P w base sp held fuel t cs = some x -> (sh.flat = false -> b0v cs) -> ∃ cl, sh.has cl /\ Cls S g cl cs) {fuel : Nat} {cs : List Value} :
 ∀ (ts : List T) (n : Nat), (∀ x ∈ ts, S.P.cellsOf e = x.size /\ tyIs S.P d e x = true) -> cs.length = n * S.P.cellsOf e + T.a6t ts -> (T.b0x ts = false -> b0v cs) →
  (∀ i, n <= i -> i < n + ts.length -> ∃ x, DataW.trod enc S.P w base sp held fuel e ((cs.drop (i * S.P.cellsOf e)).take (S.P.cellsOf e)) = some x) -> ∃ cl, T.hasL ts cl /\ Cls S g cl (cs.drop (n * S.P.cellsOf e))
 | [], n, _, hl, _, _ => ⟨[], rfl, by simp only [T.a6t, Nat.add_zero] at hl; simp [← hl], fun j c v a => by simp at a⟩
 | t :: ts, n, h, hl, hs, hx => by
  obtain ⟨h2, h3⟩ := h t (by simp)
  obtain ⟨x, hx1⟩ := hx n (Nat.le_refl _) (by simp)
  simp only [T.a6t] at hl
  simp only [T.b0x, Bool.and_eq_false_iff] at hs
  obtain ⟨a, ha, hca⟩ := ih e t fuel _ x h3 hx1 (fun hf j ad m c hj => by
   rw [List.getElem?_take] at hj
   split at hj
   ·rw [List.getElem?_drop] at hj; exact hs (.inl hf) _ ad m c hj
   ·cases hj)
  obtain ⟨b, hb, hcb⟩ := b1D ih ts (n + 1) (fun y hy => h y (by simp [hy])) (by rw [Nat.add_mul, Nat.one_mul]; omega) (fun hf => hs (.inr hf)) (fun i h1 h2 => hx i (by omega) (by simp; omega))
  refine ⟨a ++ b, by simp only [T.hasL]; exact ⟨a, b, rfl, ha, hb⟩, ?_⟩
  have := hca.append hcb
  rw [Nat.add_mul, Nat.one_mul, ← List.drop_drop] at this
  rwa [List.take_append_drop] at this
theorem a3q (hM : ∀ b o, g.M b o = w.cell? ⟨b, o, none⟩) : ∀ (d : Nat) (t : TypeId) (sh : T) (fuel : Nat) (cs : List Value) x, tyIs S.P d t sh = true -> DataW.trod enc S.P w base sp held fuel t cs = some x -> (sh.flat = false -> b0v cs) →
 ∃ cl, sh.has cl /\ Cls S g cl cs
 | 0, _, _, _, _, _, h, _, _ => by simp [tyIs] at h
 | d + 1, t, sh, fuel, cs, x, h, hx, hs => by
  simp only [tyIs, Bool.and_eq_true, beq_iff_eq] at h
  obtain ⟨hsz, h⟩ := h
  split at h
  ·rename_i k k' hu
   have := of_decide_eq_true h
   subst this
   obtain ⟨n, rfl, _, hw⟩ := DataW.trod_int hu hx
   exact ⟨[.int k n], by simp only [T.has]; exact ⟨n, rfl, hw⟩, .one (.int k n)⟩
  ·rename_i hu
   obtain ⟨b, rfl, _⟩ := DataW.trod_bool hu hx
   exact ⟨[.bool b], by simp only [T.has]; exact ⟨b, rfl⟩, .one (.bool b)⟩
  ·rename_i hu
   obtain ⟨s, rfl, _⟩ := DataW.trod_string hu hx
   exact ⟨[.str s], by simp only [T.has]; exact ⟨s, rfl⟩, .one (.str s)⟩
  ·rename_i e es e' hu
   simp only [Bool.and_eq_true, beq_iff_eq, decide_eq_true_eq] at h
   obtain ⟨⟨⟨⟨h1, h2⟩, h3⟩, h4⟩, h5⟩ := h
   rcases DataW.trod_slice hu hx with ⟨rfl, _⟩ | ⟨a, len, cap, elems, rest, n, _, rfl, _, hb, hl, hm, hlen, hel, _, _⟩
   ·exact ⟨[.sl .nil es []], by simp only [T.has]; exact .inl trivial, .one (.slNil es)⟩
   ·have hspot := hs rfl 0 a len cap rfl
    obtain ⟨b, off, spot⟩ := a
    simp only at hspot
    subst hspot
    have each : ∀ i, ∃ cl, i < len -> e'.has cl /\ ∃ cs', w.cells? base (Addr.add ⟨b, off, none⟩ (i * es)) es = some cs' /\ Cls S g cl cs' := fun i => by
     by_cases hi : i < len
     ·have h0 := hel i hi
      rw [h1] at h0
      rw [List.getElem?_eq_getElem (by omega)] at h0
      obtain ⟨cs', hc, ht⟩ := Option.bind_eq_some_iff.1 h0
      obtain ⟨cl, hcl, hcs⟩ := a3q hM d e e' n cs' _ h5 ht (fun hf => by rw [h4] at hf; cases hf)
      exact ⟨cl, fun _ => ⟨hcl, cs', hc, hcs⟩⟩
     ·exact ⟨[], fun hh => absurd hh hi⟩
    obtain ⟨F, hF⟩ := Classical.axiomOfChoice each
    have hget : ∀ (i : Nat) (x : List C), ((List.range len).map F)[i]? = some x -> i < len /\ x = F i := fun i x hi => by
     rw [List.getElem?_map] at hi
     by_cases hil : i < len
     ·rw [List.getElem?_range hil] at hi
      simp at hi
      exact ⟨hil, hi.symm⟩
     ·rw [List.getElem?_eq_none (by simpa using hil)] at hi
      simp at hi
    have hlenF : ∀ i, i < len -> (F i).length = es := fun i hi => by rw [b5O _ _ (hF i hi).1, h2]
    refine ⟨[.sl (if cap = len then .full else .shared) es ((List.range len).map F)], ?_, .one ?_⟩
    ·simp only [T.has]
     refine .inr ⟨_, _, rfl, by split <;> simp, by simp; omega, fun x hx => ?_⟩
     obtain ⟨i, hi, rfl⟩ := List.mem_map.1 hx
     exact (hF i (by simpa using hi)).1
    ·have key := RC.sl (S := S) (g := g) (if cap = len then SK.full else SK.shared) es ((List.range len).map F) b off cap (fun i j => (w.cell? ⟨b, off + i * es + j, none⟩).getD undef) (by split <;> simp)
      (fun hk => by
       simp only [List.length_map, List.length_range]
       by_cases hcl : cap = len
       ·exact hcl
       ·rw [if_neg hcl] at hk; cases hk) (by simpa using hl)
      (fun i x hi => by obtain ⟨hi2, rfl⟩ := hget i x hi; exact hlenF i hi2) (fun i x hi => by obtain ⟨hi2, rfl⟩ := hget i x hi; exact b4u _ _ (hF i hi2).1)
      (fun i x j hi hj => by
       obtain ⟨hi2, rfl⟩ := hget i x hi
       obtain ⟨_, cs', hc, hcs⟩ := hF i hi2
       obtain ⟨_, hl', hc'⟩ := World.cells?_some hc
       have := hc' j hj
       rw [Addr.a2h, Addr.a2h] at this
       rw [hM, this, List.getElem?_eq_getElem (by omega)]; rfl)
      (fun i x j c hi hj => by
       obtain ⟨hi2, rfl⟩ := hget i x hi
       obtain ⟨_, cs', hc, hcs⟩ := hF i hi2
       obtain ⟨_, hl', hc'⟩ := World.cells?_some hc
       have hjl : j < es := by rw [← hlenF i hi2]; exact (List.getElem?_eq_some_iff.1 hj).1
       have := hc' j hjl
       rw [Addr.a2h, Addr.a2h] at this
       rw [this]
       have h6 : cs'[j]? = some (cs'[j]'(by omega)) := List.getElem?_eq_getElem _
       rw [h6]
       exact hcs.2 j c _ hj h6)
     simpa using key
  ·rename_i fs ts hu
   obtain ⟨xs, n, _, _, hcl, hxl, hf⟩ := DataW.trod_struct hu hx
   simp only [T.flat] at hs
   simp only [T.size] at hsz
   obtain ⟨cl, h1, h2⟩ := b0I (S := S) (g := g) (fun t sh fuel cs x => a3q hM d t sh fuel cs x) (fuel := n) (cs := cs) fs.toList ts 0 h (by omega) hs (fun f hfm => by
    obtain ⟨i, hi⟩ := List.getElem?_of_mem hfm
    have hi' : i < xs.length := by rw [hxl]; have := (List.getElem?_eq_some_iff.1 hi).1; simpa using this
    have := hf i f (by simpa using hi)
    rw [List.getElem?_eq_getElem hi'] at this
    exact ⟨_, this⟩)
   exact ⟨cl, by simp only [T.has]; exact h1, by simpa using h2⟩
  ·rename_i n e ts hu
   simp only [Bool.and_eq_true, beq_iff_eq, List.all_eq_true] at h
   obtain ⟨xs, m, _, _, hcl, hxl, hf⟩ := DataW.trod_array hu hx
   simp only [T.flat] at hs
   simp only [T.size] at hsz
   obtain ⟨cl, h1, h2⟩ := b1D (S := S) (g := g) (e := e) (fun t sh fuel cs x => a3q hM d t sh fuel cs x) (fuel := m) (cs := cs) ts 0 h.2 (by omega) hs (fun i _ hi => by
    have hi' : i < n := by omega
    have := hf i hi'
    rw [List.getElem?_eq_getElem (by omega)] at this
    exact ⟨_, this⟩)
   exact ⟨cl, by simp only [T.has]; exact h1, by simpa using h2⟩
  ·cases h
theorem b6m {P : Program} {u : TypeId} {a : Addr} {n c : Nat} (h : Cell.okWide P w .any base u (.slice (some a) n c)) : a.spot = none := by
 unfold Cell.okWide at h
 cases hu : P.underlying u with
 | none => simp [hu, Cell.ok] at h
 | some d =>
  cases d <;> simp [hu, Cell.ok] at h
  exact h.2.2.2.1
theorem b6N (hM : ∀ b o, g.M b o = w.cell? ⟨b, o, none⟩) {d : Nat} {t : TypeId} {sh : T} {v : Value} {x : DataW H} {ps : List MemPlace} (h : tyIs S.P d t sh = true) (hx : DataW.Trod enc S.P w base sp held t v x ps)
 (hok : Value.okWide S.P w .any base t v) : ∃ y, sh.hasV y /\ RV S g y v := by
 obtain ⟨fuel, hx⟩ := hx
 have agg : (∃ fs, S.P.underlying t = some (.struct fs)) \/ (∃ n e, S.P.underlying t = some (.array n e)) -> ∃ cs, v = .agg cs /\ b0v cs.toList := fun hu => by
  have : ∃ cs, v = .agg cs /\ cs.size = S.P.cellsOf t /\ Row.okWide S.P w .any base t cs := by
   rcases hu with ⟨fs, hu⟩ | ⟨n, e, hu⟩ <;> simpa [Value.okWide, hu] using hok
  obtain ⟨cs, rfl, _, ts, _, _, hr⟩ := this
  refine ⟨cs, rfl, fun j a n c hj => ?_⟩
  obtain ⟨u, _, hu⟩ := hr j _ (by simpa using hj)
  exact b6m hu
 cases d with
 | zero => simp [tyIs] at h
 | succ d =>
  have h' := h
  simp only [tyIs, Bool.and_eq_true, beq_iff_eq] at h
  obtain ⟨hsz, h⟩ := h
  split at h
  ·rename_i k k' hu
   have := of_decide_eq_true h
   subst this
   simp only [Value.okWide, hu] at hok
   cases v <;> simp [Cell.okWide, Cell.ok, hu] at hok
   obtain ⟨cl, h1, h2⟩ := a3q (S := S) (g := g) hM (d + 1) t _ fuel _ _ h' hx (by simp [T.flat])
   simp only [T.has] at h1
   obtain ⟨n, rfl, hw⟩ := h1
   exact ⟨.sc (.int k n), by simp only [T.hasV, T.has]; exact ⟨_, rfl, n, rfl, hw⟩, .sc _ _ (h2.2 0 _ _ rfl rfl)⟩
  ·rename_i hu
   simp only [Value.okWide, hu] at hok
   cases v <;> simp [Cell.okWide, Cell.ok, hu] at hok
   obtain ⟨cl, h1, h2⟩ := a3q (S := S) (g := g) hM (d + 1) t _ fuel _ _ h' hx (by simp [T.flat])
   simp only [T.has] at h1
   obtain ⟨n, rfl⟩ := h1
   exact ⟨.sc (.bool n), by simp only [T.hasV, T.has]; exact ⟨_, rfl, n, rfl⟩, .sc _ _ (h2.2 0 _ _ rfl rfl)⟩
  ·rename_i hu
   simp only [Value.okWide, hu] at hok
   cases v <;> simp [Cell.okWide, Cell.ok, hu] at hok
   obtain ⟨cl, h1, h2⟩ := a3q (S := S) (g := g) hM (d + 1) t _ fuel _ _ h' hx (by simp [T.flat])
   simp only [T.has] at h1
   obtain ⟨n, rfl⟩ := h1
   exact ⟨.sc (.str n), by simp only [T.hasV, T.has]; exact ⟨_, rfl, n, rfl⟩, .sc _ _ (h2.2 0 _ _ rfl rfl)⟩
  ·rename_i e es e' hu
   simp only [Value.okWide, hu] at hok
   obtain ⟨p, n, c, rfl⟩ : ∃ p n c, v = .slice p n c := by
    cases v <;> first | exact ⟨_, _, _, rfl⟩ | simp [Cell.okWide, Cell.ok, hu] at hok
   obtain ⟨cl, h1, h2⟩ := a3q (S := S) (g := g) hM (d + 1) t _ fuel _ _ h' hx (fun _ j a n' c' hj => by
    rcases j with _ | j
    ·simp [Value.cells] at hj
     obtain ⟨rfl, rfl, rfl⟩ := hj
     exact b6m hok
    ·simp [Value.cells] at hj)
   have hl := h2.1
   have hone : ∃ c, cl = [c] := by
    simp only [T.has] at h1
    rcases h1 with rfl | ⟨k, l, rfl, _⟩ <;> exact ⟨_, rfl⟩
   obtain ⟨c0, rfl⟩ := hone
   exact ⟨.sc c0, by simp only [T.hasV]; exact ⟨c0, rfl, h1⟩, .sc _ _ (h2.2 0 _ _ rfl rfl)⟩
  ·rename_i fs ts hu
   obtain ⟨cs, rfl, hsp⟩ := agg (.inl ⟨fs, hu⟩)
   obtain ⟨cl, h1, h2⟩ := a3q (S := S) (g := g) hM (d + 1) t _ fuel _ _ h' hx (fun _ => hsp)
   simp only [T.has] at h1
   exact ⟨.agg cl, by simp only [T.hasV]; exact ⟨cl, rfl, h1⟩, .agg cl cs (by simpa [Value.cells] using h2.1) fun j c v a b => h2.2 j c v a (by simpa [Value.cells] using b)⟩
  ·rename_i n e ts hu
   obtain ⟨cs, rfl, hsp⟩ := agg (.inr ⟨n, e, hu⟩)
   obtain ⟨cl, h1, h2⟩ := a3q (S := S) (g := g) hM (d + 1) t _ fuel _ _ h' hx (fun _ => hsp)
   simp only [T.has] at h1
   exact ⟨.agg cl, by simp only [T.hasV]; exact ⟨cl, rfl, h1⟩, .agg cl cs (by simpa [Value.cells] using h2.1) fun j c v a b => h2.2 j c v a (by simpa [Value.cells] using b)⟩
  ·cases h
theorem b3o (hM : ∀ b o, g.M b o = w.cell? ⟨b, o, none⟩) {d : Nat} : ∀ {ts : List TypeId} {shs : List T} {vs : List Value} {ds : List (DataW H)} {ps : List MemPlace}, a6V S.P d ts shs = true -> DataW.TrodAll enc S.P w base sp held ts vs ds ps →
 (∀ (j : Nat) t v, ts[j]? = some t -> vs[j]? = some v -> Value.okWide S.P w .any base t v) -> ∃ ys, a6Z shs ys /\ RVs S g ys vs
 | [], [], vs, ds, ps, _, h, _ => by
  obtain ⟨rfl, rfl, rfl⟩ := trodAll_nil h
  exact ⟨[], rfl, rfl, fun j v x a => by simp at a⟩
 | t :: ts, sh :: shs, vs, ds, ps, hp, h, hok => by
  simp only [a6V, Bool.and_eq_true] at hp
  obtain ⟨v, vs', x, ds', p, q, rfl, rfl, rfl, hv, hr⟩ := trodAll_cons h
  obtain ⟨y, hy, hyv⟩ := b6N (S := S) (g := g) hM hp.1 hv (hok 0 t v rfl rfl)
  obtain ⟨ys, hys, hl, hyvs⟩ := b3o hM hp.2 hr (fun j t v a b => hok (j + 1) t v (by simpa using a) (by simpa using b))
  refine ⟨y :: ys, ⟨y, ys, rfl, hy, hys⟩, by simp [hl], fun j a b h1 h2 => ?_⟩
  rcases j with _ | j
  ·simp at h1 h2; subst h1; subst h2; exact hyv
  ·exact hyvs j a b (by simpa using h1) (by simpa using h2)
 | [], _ :: _, _, _, _, hp, _, _ => by simp [a6V] at hp
 | _ :: _, [], _, _, _, hp, _, _ => by simp [a6V] at hp
def Gh.start (w : World) : Gh := { σ := fun _ => 0, A := fun _ => False, M := fun b o => w.cell? ⟨b, o, none⟩, N := fun b => match w.heap[b]? with | some (.map es n) => if n = es.size then some es else none | _ => none }
theorem b6X {G : List Nat} (hgl : ∀ id ∈ G, RC S (.start w) (.eptr (S.Γ.glob id) 0) (.pointer (some ⟨S.gm id, 0, none⟩))) : RelH S G (.start w) [] w where
 ob := fun r o h => by simp at h
 as := fun r h => h.elim
 lv := fun r o h => by simp at h
 inj := fun r r' o o' h => by simp at h
 im := fun b o v h => h
 mm := fun b es h => by
  simp only [Gh.start] at h
  split at h
  ·rename_i es' n he
   split at h
   ·rename_i hn
    simp only [Option.some.injEq] at h
    subst h
    exact ⟨n, he, hn⟩
   ·cases h
  ·cases h
 djM := fun r o h => by simp at h
 djN := fun r o h => by simp at h
 gl := hgl
 ex := fun r j r' j' b h => by obtain ⟨cs, es, l, vals, elem, fr, a, n, cap, h1, _⟩ := h; simp at h1
 cl := fun r j b r' o h => by obtain ⟨cs, es, l, vals, elem, fr, a, n, cap, h1, _⟩ := h; simp at h1
theorem a6Z.len : ∀ {ts : List T} {vs : List V}, a6Z ts vs -> vs.length = ts.length
 | [], vs, h => by simp only [a6Z] at h; subst h; rfl
 | t :: ts, vs, h => by
  simp only [a6Z] at h
  obtain ⟨v, r, rfl, _, hr⟩ := h
  simp [a6Z.len hr]
theorem b0Q : ∀ {ts : List TypeId} {vs : List Value} {ds : List (DataW H)} {ps : List MemPlace}, DataW.TrodAll enc S.P w base sp held ts vs ds ps -> ds.length = vs.length
 | [], vs, ds, ps, h => by obtain ⟨rfl, rfl, rfl⟩ := trodAll_nil h; rfl
 | t :: ts, vs, ds, ps, h => by
  obtain ⟨v, vs', x, ds', p, q, rfl, rfl, rfl, hv, hr⟩ := trodAll_cons h
  simp [b0Q hr]
theorem b0p {w' : World} (hs : ∀ b, b < w.heap.size -> w'.heap[b]? = w.heap[b]?) {sp' : Nat -> Bool} (hl : laidOutB S.P = true) : ∀ {ts : List TypeId} {vs : List Value} {ds : List (DataW H)} {ps : List MemPlace}, (∀ t ∈ ts, S.P.readableRec t = true /\ t < S.P.types.size) →
 DataW.TrodAll enc S.P w 0 (fun _ => true) true ts vs ds ps -> (∀ p ∈ ps, p.block < w.heap.size) -> (∀ p ∈ ps, sp' p.block = true) -> DataW.TrodAll enc S.P w' 0 sp' true ts vs ds ps
 | [], vs, ds, ps, _, h, _, _ => by obtain ⟨rfl, rfl, rfl⟩ := trodAll_nil h; rfl
 | t :: ts, vs, ds, ps, ht, h, hlt, hsp => by
  obtain ⟨v, vs', x, ds', p, q, rfl, rfl, rfl, ⟨n, hv⟩, hr⟩ := trodAll_cons h
  have ht1 := ht t (by simp)
  have same : ∀ z : MemPlace, z.block < w.heap.size -> w.sameAt w' z := fun z hz => by
   cases z with
   | cell b off => simp only [World.sameAt, World.cell?]; rw [hs b hz]
   | map b => exact hs b hz
  exact ⟨p, q, ⟨n, DataW.trod_stays (kids_book hl ht1.1) (book_sized ht1.1) (fun e => by cases e) ⟨ht1.2, book_self t⟩ hv (fun z hz => same z (hlt z (by simp [show z ∈ p from hz]))) fun z hz => hsp z (by simp [show z ∈ p from hz])⟩,
   b0p hs hl (fun t' h' => ht t' (by simp [h'])) hr (fun z hz => hlt z (by simp [hz])) (fun z hz => hsp z (by simp [hz])), rfl⟩
theorem b4C {G : List Nat} (hS : SeatOk S G) {id : Nat} {fn : Func} {s : ChangeSpec} {fresh : Bool} {tb : TypeId} (d : Nat) (shs : List T) (hps : a6V S.P d fn.params.toList shs = true) (hrd : (fn.params.toList.all fun t => S.P.readableRec t && decide (t < S.P.types.size)) = true)
 (hlo : laidOutB S.P = true) (hres : fn.resultTypes = #[tb]) (htb : S.P.underlying tb = some .bool) (hvars : s.vars = []) (hspec : ∀ ds : List (DataW H), ds.length = shs.length -> s.fn H ds = { results := [.lit (.bool true)], args := ds })
 (hK : ∀ vs, a6Z shs vs -> K S.Γ (.fn id) vs [] = some (.sc (.bool true), [])) {W : World} {args : Array Value} {ds gs : List (DataW H)} {before : List MemPlace}
 (hval : ∀ (j : Nat) t v, fn.params[j]? = some t -> args[j]? = some v -> Value.okWide S.P W .any base t v) (hW : DataW.Whole enc S.P fn.params.toList s.vars false W args.toList ds gs before)
 (hgl : ∀ id ∈ G, RC S (.start W) (.eptr (S.Γ.glob id) 0) (.pointer (some ⟨S.gm id, 0, none⟩))) :
 Calls S.P (S.fm id) args W fun e W' => ∃ v, e = .returned v /\ s.post enc S.P fn false fresh false false W args v W' := by
 have hW' := hW
 obtain ⟨p, q, hA, hV, rfl, hfz, hnd⟩ := hW
 rw [hvars] at hV
 obtain ⟨rfl, rfl⟩ := trodVars_none hV
 obtain ⟨ys, hys, hr⟩ := b3o (S := S) (g := .start W) (fun _ _ => rfl) (held := true) hps hA (fun j t v a b => hval j t v (by simpa using a) (by simpa using b))
 have hc := c3k hS (hK ys hys) (b6X hgl) hr
 refine hc.mono fun e w' ⟨x, g', he, hG, hx⟩ => ⟨x, he, ?_⟩
 obtain rfl : x = .bool true := by
  cases hx with
  | sc _ _ h => cases h; rfl
 have hsame : ∀ b, b < W.heap.size -> w'.heap[b]? = W.heap[b]? := fun b hb => hG.keeps.same b hb (by
  rintro ((⟨r, o, h, _⟩ | ⟨r, j, cs, es, l, vals, elem, fr, a, n, cap, h1, _⟩) | ⟨i, es, l, a, n, cap, h1, _⟩)
  ·simp at h
  ·simp at h1
  ·simp [get] at h1)
 have hdl : ds.length = shs.length := by
  rw [b0Q hA, ← hys.len]
  exact hr.1.symm
 have hsp := hspec ds hdl
 simp only [List.all_eq_true, Bool.and_eq_true, decide_eq_true_eq] at hrd
 have hkeep := b0p (S := S) (enc := enc) (w' := w') hsame (sp' := fun b => decide (b < W.heap.size)) hlo hrd hA (fun z hz => hW'.lt z (by simpa using hz)) (fun z hz => by simpa using hW'.lt z (by simpa using hz))
 refine ⟨ds, [], p ++ [], [], p, [], hW', ?_, ?_, ?_, ?_, fun h => by cases h⟩
 ·simp only [List.append_nil, hsp, hres]
  exact trodAll_mk1 ⟨1, by simp [DataW.trod, Value.cells, htb]⟩
 ·simp only [List.append_nil, hsp]
  exact hkeep
 ·rw [hvars]
  simp only [List.append_nil, hsp]
  rfl
 ·refine ⟨hG.keeps.os, hG.keeps.out, fun i hi => ?_⟩
  rw [hsame i hi]
  exact (World.keptBut_refl W (fun z => z ∈ p ++ [] /\ (z ∈ [] \/ z ∈ p \/ z ∈ []))).2.2 i hi
end
end Go.Pm
namespace Go.Pm
section
variable {H : Type} {enc : TypeId × Value -> H} {S : Seat} {g : Gh} {w : World} {base : Nat} {sp : Nat -> Bool} {held : Bool}
theorem b0H {P : Program} {d : Nat} : ∀ (fs : List Field) (n off : Nat), a2V P (tyIs P d) off fs (List.replicate n (.int .i64)) = true -> ∀ (i : Nat) f, fs[i]? = some f -> f.offset = off + i /\ P.cellsOf f.type = 1 /\ P.underlying f.type = some (.int .i64)
 | [], n, off, _, i, f, hf => by simp at hf
 | x :: xs, 0, off, h, _, _, _ => by simp [a2V] at h
 | x :: xs, n + 1, off, h, i, f, hf => by
  simp only [List.replicate_succ, a2V, Bool.and_eq_true, beq_iff_eq] at h
  obtain ⟨⟨⟨h1, h2⟩, h3⟩, h4⟩ := h
  rcases i with _ | i
  ·simp at hf
   subst hf
   refine ⟨h1, h2, ?_⟩
   cases d with
   | zero => simp [tyIs] at h3
   | succ d =>
    simp only [tyIs, Bool.and_eq_true] at h3
    have h5 := h3.2
    split at h5 <;> simp_all
  ·have := b0H xs n _ h4 i f (by simpa using hf)
   simp only [T.size] at this
   exact ⟨by omega, this.2⟩
theorem b7C {d : Nat} {t : TypeId} {n fuel : Nat} {cs : List Value} {zs : List Int} {p : List MemPlace} (h : tyIs S.P d t (.st (List.replicate n (.int .i64))) = true)
 (hx : DataW.trod enc S.P w base sp held fuel t cs = some (.agg (zs.map fun z => .lit (.int .i64 z)), p)) : cs = zs.map (Value.int .i64 ·) := by
 have sz : ∀ n, T.a6t (List.replicate n (.int .i64)) = n := fun n => by
  induction n with
  | zero => rfl
  | succ n ih => simp only [List.replicate_succ, T.a6t, T.size, ih]; omega
 have main : ∀ (xs : List (DataW H × List MemPlace)) (m : Nat), DataW.agg (H := H) (zs.map fun z => .lit (.int .i64 z)) = .agg (xs.map (·.1)) -> cs.length = n -> xs.length = n →
  (∀ i, i < n -> ∃ ti, S.P.underlying ti = some (.int .i64) /\ DataW.trod enc S.P w base sp held m ti ((cs.drop i).take 1) = xs[i]?) -> cs = zs.map (Value.int .i64 ·) := fun xs m he hcl hxl hf => by
  simp only [DataW.agg.injEq] at he
  apply List.ext_getElem?
  intro i
  by_cases hi : i < n
  ·obtain ⟨ti, hu, ht⟩ := hf i hi
   rw [List.getElem?_eq_getElem (by omega)] at ht
   obtain ⟨z, h1, h2, _⟩ := DataW.trod_int hu ht
   have h3 : (zs.map fun z => DataW.lit (H := H) (.int .i64 z))[i]? = some (xs[i]).1 := by rw [he]; simp [hxl, hi]
   rw [h2, List.getElem?_map] at h3
   cases hz : zs[i]? with
   | none => rw [hz] at h3; simp at h3
   | some z' =>
    rw [hz] at h3
    simp at h3
    subst h3
    rw [List.getElem?_map, hz]
    have : ((cs.drop i).take 1)[0]? = some (Value.int .i64 z') := by rw [h1]; rfl
    simpa [List.getElem?_take, List.getElem?_drop] using this
  ·have : zs.length = n := by have := congrArg List.length he; simp at this; omega
   rw [List.getElem?_eq_none (by omega), List.getElem?_eq_none (by simp; omega)]
 cases d with
 | zero => simp [tyIs] at h
 | succ d =>
  simp only [tyIs, Bool.and_eq_true, beq_iff_eq, T.size, sz] at h
  obtain ⟨hsz, h⟩ := h
  split at h
  ·rename_i e; cases e
  ·rename_i e; cases e
  ·rename_i e; cases e
  ·rename_i e; cases e
  ·rename_i fs ts hu e
   cases e
   obtain ⟨xs, m, _, he, hcl, hxl, hf⟩ := DataW.trod_struct hu hx
   have hfl : ∀ (fs : List Field) (k off : Nat), a2V S.P (tyIs S.P d) off fs (List.replicate k (.int .i64)) = true -> fs.length = k := fun fs => by
    induction fs with
    | nil => intro k off h; cases k with | zero => rfl | succ k => simp [List.replicate_succ, a2V] at h
    | cons x xs ih => intro k off h; cases k with | zero => simp [a2V] at h | succ k => simp only [List.replicate_succ, a2V, Bool.and_eq_true] at h; simp [ih k _ h.2]
   have hfs := hfl _ _ _ h
   have hfs' : fs.size = n := by simpa using hfs
   refine main xs m (Prod.mk.inj he).1 (by omega) (by omega) (fun i hi => ?_)
   have hfi : fs[i]? = some (fs[i]'(by omega)) := Array.getElem?_eq_getElem _
   obtain ⟨h1, h2, h3⟩ := b0H _ _ _ h i _ (by rw [Array.getElem?_toList]; exact hfi)
   have := hf i _ hfi
   rw [h1, h2, Nat.zero_add] at this
   exact ⟨_, h3, this⟩
  ·rename_i n' e ts hu e'
   cases e'
   simp only [Bool.and_eq_true, beq_iff_eq, List.length_replicate, List.all_eq_true] at h
   obtain ⟨rfl, h⟩ := h
   obtain ⟨xs, m, _, he, hcl, hxl, hf⟩ := DataW.trod_array hu hx
   refine main xs m (Prod.mk.inj he).1 (by omega) (by omega) (fun i hi => ?_)
   have h0 := h (.int .i64) (List.mem_replicate.2 ⟨by omega, rfl⟩)
   have := hf i hi
   rw [h0.1] at this
   simp only [T.size, Nat.mul_one] at this
   refine ⟨e, ?_, this⟩
   have h3 := h0.2
   cases d with
   | zero => simp [tyIs] at h3
   | succ d =>
    simp only [tyIs, Bool.and_eq_true] at h3
    have h5 := h3.2
    split at h5 <;> simp_all
  ·cases h
theorem b6s {t e : TypeId} {n fuel : Nat} {cs : List Value} {l : List (List UInt8 × FuncId)} {p : List MemPlace} {ps rs : Array TypeId} {va : Bool} (hu : S.P.underlying t = some (.array n e)) (he : S.P.underlying e = some (.func ps rs va)) (hc : S.P.cellsOf e = 1)
 (hsz : S.P.cellsOf t = n) (hl : (l.all fun x => !x.1.isEmpty && decide (((List.range S.P.funcs.size).filter fun f => (S.P.funcs[f]?).any (·.name.toUTF8.data.toList == x.1)) = [x.2])) = true)
 (hx : DataW.trod (funcToken S.P) S.P w base sp true fuel t cs = some (.agg (l.map fun x => .held x.1), p)) : cs = l.map fun x => Value.func (.func x.2) #[] #[] := by
 obtain ⟨xs, m, _, hagg, hcl, hxl, hf⟩ := DataW.trod_array hu hx
 have hagg := (Prod.mk.inj hagg).1
 simp only [DataW.agg.injEq] at hagg
 have hll : l.length = n := by have := congrArg List.length hagg; simp at this; omega
 apply List.ext_getElem?
 intro i
 by_cases hi : i < n
 ·have ht := hf i hi
  rw [hc, Nat.mul_one, List.getElem?_eq_getElem (by omega)] at ht
  have hseg : (cs.drop i).take 1 = [cs[i]'(by omega)] := by rw [List.drop_eq_getElem_cons (by omega)]; rfl
  rw [hseg] at ht
  have h3 : (l.map fun x => DataW.held (H := List UInt8) x.1)[i]? = some (xs[i]).1 := by rw [hagg]; simp [hxl, hi]
  have hli : l[i]? = some (l[i]'(by omega)) := List.getElem?_eq_getElem _
  rw [List.getElem?_map, hli] at h3
  simp only [Option.map_some, Option.some.injEq] at h3
  have hm := List.all_eq_true.1 hl (l[i]'(by omega)) (List.getElem_mem _)
  simp only [Bool.and_eq_true, Bool.not_eq_true', decide_eq_true_eq] at hm
  cases hn : (l[i]'(by omega)).1 with
  | nil => rw [hn] at hm; simp at hm
  | cons b r =>
   have ht' : DataW.trod (funcToken S.P) S.P w base sp true m e [cs[i]'(by omega)] = some (.held (b :: r), (xs[i]'(by omega)).2) := by rw [ht, ← hn, h3]
   rw [hn] at hm
   have := func_of_trod he hm.2 ht'
   rw [List.getElem?_eq_getElem (by omega), List.getElem?_map, hli, this]
   rfl
 ·rw [List.getElem?_eq_none (by omega), List.getElem?_eq_none (by simp; omega)]
theorem b5L {n : String} {b : Nat} {cs : Array Value} {cl : List C} (hg : S.P.globalNamed n = some b) (hv : w.var? S.P n = some cs) (hp : C.a0v cl = true) (hc : Cls S (.start w) cl cs.toList) : RC S (.start w) (.eptr cl 0) (.pointer (some ⟨b, 0, none⟩)) := by
 have hsz : cl.length = cs.size := by simpa using hc.1
 have := RC.eptr (S := S) (g := .start w) cl 0 b 0 (fun j => cs.getD j undef) hp (fun j hj => by
  simp only [Gh.start, Nat.zero_add]
  rw [World.var?_cell hg hv j]
  have : j < cs.size := by omega
  simp [Array.getD_eq_getD_getElem?, this]) (fun j c hj => by
  have hlt : j < cs.size := by have := (List.getElem?_eq_some_iff.1 hj).1; omega
  refine hc.2 j c _ hj ?_
  simp [Array.getD_eq_getD_getElem?, hlt])
 simpa using this
theorem b7H {P : Program} {n : String} {d : DataW Unit} {r : List (String × DataW Unit)} {ps : List MemPlace} (h : DataW.LaidVars P w ((n, d) :: r) ps) :
 (∃ g t cs fuel p, P.globalNamed n = some g /\ (P.globals[g]?).map (·.type) = some t /\ w.var? P n = some cs /\ DataW.trod (fun _ => ()) P w 0 (fun _ => true) false fuel t cs.toList = some (d, p)) /\ ∃ q, DataW.LaidVars P w r q := by
 obtain ⟨g, t, cs, fuel, p, q, h1, h2, h3, h4, h5, _⟩ := h
 exact ⟨⟨g, t, cs, fuel, p, h1, h2, h3, h4⟩, q, h5⟩
theorem b4B {P : Program} {n : String} {d : DataW Unit} : ∀ {l : List (String × DataW Unit)} {ps : List MemPlace}, DataW.LaidVars P w l ps -> (n, d) ∈ l →
 ∃ g t cs fuel p, P.globalNamed n = some g /\ (P.globals[g]?).map (·.type) = some t /\ w.var? P n = some cs /\ DataW.trod (fun _ => ()) P w 0 (fun _ => true) false fuel t cs.toList = some (d, p)
 | [], _, _, h => by simp at h
 | (n', d') :: l, ps, h, hm => by
  obtain ⟨h1, q, h2⟩ := b7H h
  rcases List.mem_cons.1 hm with e | hm
  ·cases e; exact h1
  ·exact b4B h2 hm
theorem b7x {n : String} {b t k d : Nat} {zs : List Int} {l : List (String × DataW Unit)} (h : laidMetH S.P l w) (hm : (n, .agg (zs.map fun z => .lit (.int .i64 z))) ∈ l) (hg : S.P.globalNamed n = some b) (ht : (S.P.globals[b]?).map (·.type) = some t)
 (hty : tyIs S.P d t (.st (List.replicate k (.int .i64))) = true) : RC S (.start w) (.eptr (zs.map (C.int .i64 ·)) 0) (.pointer (some ⟨b, 0, none⟩)) := by
 have h1 := (laidMetH_iff.1 h).1
 obtain ⟨ps, hl, _⟩ := h1
 obtain ⟨g, t', cs, fuel, p, k1, k2, k3, k4⟩ := b4B (n := n) (d := .agg (zs.map fun z => .lit (.int .i64 z))) hl (List.mem_filter.2 ⟨hm, rfl⟩)
 obtain rfl := Option.some.inj (hg.symm.trans k1)
 obtain rfl := Option.some.inj (ht.symm.trans k2)
 have := b7C hty k4
 refine b5L hg k3 (b0j.2 fun c hc => by obtain ⟨z, _, rfl⟩ := List.mem_map.1 hc; rfl) ?_
 rw [this]
 refine ⟨by simp, fun j c v a b => ?_⟩
 rw [List.getElem?_map] at a b
 cases hz : zs[j]? with
 | none => rw [hz] at a; cases a
 | some z => rw [hz] at a b; cases a; cases b; exact .int .i64 z
theorem b6t {n : String} {b t e k : Nat} {dd : DataW Unit} {ids : List Nat} {names : List (List UInt8)} {l : List (String × DataW Unit)} {ps rs : Array TypeId} {va : Bool} (h : laidMetH S.P l w) (hm : (n, .iface "func table" dd) ∈ l) (hg : S.P.globalNamed n = some b)
 (ht : (S.P.globals[b]?).map (·.type) = some t) (hu : S.P.underlying t = some (.array k e)) (he : S.P.underlying e = some (.func ps rs va)) (hc : S.P.cellsOf e = 1) (hsz : S.P.cellsOf t = k)
 (hd : dd.funcsOut = .agg (names.map .held)) (hlen : names.length = ids.length)
 (hl : ((names.zip (ids.map S.fm)).all fun x => !x.1.isEmpty && decide (((List.range S.P.funcs.size).filter fun f => (S.P.funcs[f]?).any (·.name.toUTF8.data.toList == x.1)) = [x.2])) = true) :
 RC S (.start w) (.eptr (ids.map fun i => C.fn (.fn i) [] [] []) 0) (.pointer (some ⟨b, 0, none⟩)) := by
 obtain ⟨g, t', cs, fuel, p, k1, k2, k3, k4⟩ := h.funcs hm
 obtain rfl := Option.some.inj (hg.symm.trans k1)
 obtain rfl := Option.some.inj (ht.symm.trans k2)
 rw [hd] at k4
 have e0 : (names.zip (ids.map S.fm)).map Prod.fst = names := List.map_fst_zip (by simp [hlen])
 have e1 : names.map DataW.held = ((names.zip (ids.map S.fm)).map fun x => DataW.held (H := List UInt8) x.1) :=
  (congrArg (List.map DataW.held) e0).symm.trans (List.map_map ..)
 rw [e1] at k4
 have := b6s hu he hc hsz hl k4
 refine b5L hg k3 (b0j.2 fun c hc => by obtain ⟨z, _, rfl⟩ := List.mem_map.1 hc; rfl) ?_
 rw [this]
 refine ⟨by simp [hlen], fun j c v a b => ?_⟩
 rw [List.getElem?_map] at a b
 cases hz : ids[j]? with
 | none => rw [hz] at a; cases a
 | some i =>
  have hj : j < ids.length := (List.getElem?_eq_some_iff.1 hz).1
  have hzip : (names.zip (ids.map S.fm))[j]? = some (names[j]'(by omega), S.fm i) := by
   rw [List.getElem?_zip_eq_some]
   exact ⟨List.getElem?_eq_getElem _, by rw [List.getElem?_map, hz]; rfl⟩
  rw [hz] at a
  rw [hzip] at b
  cases a
  cases b
  exact .fn i [] [] [] [] [] [] rfl rfl (fun j c v a => by simp at a) rfl (fun j c v a => by simp at a)
end
end Go.Pm
